import PyProof.Rows.All
import Wide.All
import OpenK.AllK
import Wide.FinOn
import HandS.ForMost
import HandS.ForExc
import HandS.OwnEq
import HandS.TupAny
import HandS.TupMul
import HandS.Wide
import HandS.IsInst
import HandS.Deep
import HandS.Zip
import HandS.Defaults
import HandS.Conv
import HandS.RevTup
import HandS.Rev
import KE.GoesEnum
import KE.SortData
import HandS.Dict
import KE.KDictPairs
import KE.KDictKeyed
import HandS.ExcInit
import HandS.ExcSuper
import HandS.TryMany
import HandS.ExcField
import HandS.CallLocal
import HandS.TupSets
import HandS.TupLe
import HandS.SetFor
import HandS.HeadHook2
import HandS.EndBits
import HandS.HeadEnd
import HandS.Head2
import HandS.Style
import HandS.Set
import HandS.Strs
import HandS.Codes
import PySem.Challenge.RW_flagsflipped_k03_whole_faces_and_marks
set_option Elab.async false
set_option linter.all false
set_option maxRecDepth 100000
section
set_option maxHeartbeats 4000000
namespace Mi
open PySem (Str Addr Value)
open L2 (V Hp HO SqL SqT upd upd_same upd_ne)

/-- a dict's keys: ints and texts, or tuples of them -/
inductive Ks where
  | k (l : List L2.Key) | t (l : List (List L2.Key))
  deriving Inhabited
/-- plain data; ref: a cell of the memory; gl: what the module's name stands for -/
inductive D where
  | non | bl (b : Bool) | int (i : Int) | str (x : Str)
  | tup (xs : List D) | lst (xs : List D)
  | ins (c : Str) (fs : List Str) (xs : List D)
  | dic (ks : Ks) (xs : List D)
  | slst (xs : List D)
  | ref (a : Nat) | gl (x : Str)
  deriving Inhabited

/-- what a cell holds -/
inductive O where
  | lst (xs : List D) | ins (c : Str) (fs : List Str) (xs : List D) | dic (ks : Ks) (xs : List D) | dead
  deriving Inhabited
/-- keys as data -/
def kD : L2.Key → D
  | .inl i => .int i
  | .inr x => .str x
def kT (k : List L2.Key) : D := .tup (k.map kD)
/-- a dict's object: its keys, its values -/
def DO (o : HO) (ks : Ks) (vs : List V) : Prop := match ks with
  | .k l => l.length = vs.length ∧ o = .dK (l.zip vs)
  | .t l => l.length = vs.length ∧ o = .dT (l.zip vs)

/-- a world: the written part, the module's names, the frozen heap, where the cells stand -/
structure Wd where
  K : PySem.W.Frag
  mg : Str → Option Value
  F : Hp
  ι : List Addr

mutual
def VR (W : Wd) : D → V → Prop
  | .non, v => v = .non
  | .bl b, v => v = .bl b
  | .int i, v => v = .int i
  | .str x, v => v = .str x
  | .tup xs, v => ∃ p vs, v = .ref p ∧ W.F p = some (.tup vs) ∧ VRs W xs vs
  | .lst xs, v => ∃ p vs, v = .ref p ∧ W.F p = some (.lst vs) ∧ VRs W xs vs
  | .slst xs, v => ∃ p vs, v = .ref p ∧ SqL W.K W.F p vs ∧ VRs W xs vs
  | .ins c fs xs, v => ∃ p C dx vs, v = .ref p ∧ W.mg c = some (.ref C) ∧ W.F p = some (.ins C dx (fs.zip vs)) ∧ fs.length = xs.length ∧ VRs W xs vs
  | .dic ks xs, v => ∃ p o vs, v = .ref p ∧ W.F p = some o ∧ DO o ks vs ∧ VRs W xs vs
  | .ref a, v => ∃ p, v = .ref p ∧ W.ι[a]? = some p
  | .gl x, v => ∃ p, v = .ref p ∧ W.mg x = some (.ref p)
def VRs (W : Wd) : List D → List V → Prop
  | [], vs => vs = []
  | d :: ds, vs => ∃ v r, vs = v :: r ∧ VR W d v ∧ VRs W ds r
end

mutual
/-- no cell is named -/
def NR : D → Bool
  | .tup xs => NRs xs
  | .lst xs => NRs xs
  | .slst xs => NRs xs
  | .ins _ _ xs => NRs xs
  | .dic _ xs => NRs xs
  | .ref _ => false
  | _ => true
def NRs : List D → Bool
  | [] => true
  | d :: ds => NR d && NRs ds
end

/-- what stands stays -/
def Le (F F' : Hp) : Prop := ∀ a o, F a = some o → F' a = some o
theorem Le.refl {F : Hp} : Le F F := fun _ _ h => h
theorem Le.trans {F G H : Hp} (a : Le F G) (b : Le G H) : Le F H := fun x o h => b x o (a x o h)
theorem Le.upd {F : Hp} {p : Addr} {o : HO} (h : F p = none) : Le F (upd F p o) := fun a u e => by
  have : a ≠ p := by rintro rfl; rw [h] at e; cases e
  rw [upd_ne this]; exact e
theorem Le.sqT {K : PySem.W.Frag} {F G : Hp} {a : Addr} {xs : List V} (h : Le F G) (s : SqT K F a xs) : SqT K G a xs := s.ext h
theorem Le.sqL {K : PySem.W.Frag} {F G : Hp} {a : Addr} {xs : List V} (h : Le F G) (s : SqL K F a xs) : SqL K G a xs := s.ext h

/-- a later world -/
structure WLe (W W' : Wd) : Prop where
  K : W'.K = W.K
  mg : W'.mg = W.mg
  F : Le W.F W'.F
  ι : ∀ (i : Nat) (p : Addr), W.ι[i]? = some p → W'.ι[i]? = some p
theorem WLe.refl {W : Wd} : WLe W W := ⟨rfl, rfl, Le.refl, fun _ _ h => h⟩
theorem WLe.trans {W W1 W2 : Wd} (a : WLe W W1) (b : WLe W1 W2) : WLe W W2 :=
  ⟨b.K.trans a.K, b.mg.trans a.mg, a.F.trans b.F, fun i p h => b.ι i p (a.ι i p h)⟩

mutual
theorem VR.mono {W W' : Wd} (h : WLe W W') : ∀ (d : D) (v : V), VR W d v → VR W' d v
  | .non, _, r => r
  | .bl _, _, r => r
  | .int _, _, r => r
  | .str _, _, r => r
  | .tup xs, v, r => by
    obtain ⟨p, vs, e, s, t⟩ := (show ∃ p vs, v = .ref p ∧ W.F p = some (.tup vs) ∧ VRs W xs vs from by simpa only [VR] using r)
    unfold VR
    exact ⟨p, vs, e, h.F _ _ s, VRs.mono h xs vs t⟩
  | .lst xs, v, r => by
    obtain ⟨p, vs, e, s, t⟩ := (show ∃ p vs, v = .ref p ∧ W.F p = some (.lst vs) ∧ VRs W xs vs from by simpa only [VR] using r)
    unfold VR
    exact ⟨p, vs, e, h.F _ _ s, VRs.mono h xs vs t⟩
  | .slst xs, v, r => by
    obtain ⟨p, vs, e, s, t⟩ := (show ∃ p vs, v = .ref p ∧ SqL W.K W.F p vs ∧ VRs W xs vs from by simpa only [VR] using r)
    unfold VR
    exact ⟨p, vs, e, by rw [h.K]; exact h.F.sqL s, VRs.mono h xs vs t⟩
  | .ins c fs xs, v, r => by
    unfold VR at r
    obtain ⟨p, C, dx, vs, e, m, f, l, t⟩ := r
    unfold VR
    exact ⟨p, C, dx, vs, e, by rw [h.mg]; exact m, h.F _ _ f, l, VRs.mono h xs vs t⟩
  | .dic ks xs, v, r => by
    unfold VR at r
    obtain ⟨p, o, vs, e, f, dd, t⟩ := r
    unfold VR
    exact ⟨p, o, vs, e, h.F _ _ f, dd, VRs.mono h xs vs t⟩
  | .ref a, v, r => by
    unfold VR at r ⊢
    obtain ⟨p, e, f⟩ := r
    exact ⟨p, e, h.ι _ _ f⟩
  | .gl x, v, r => by
    unfold VR at r ⊢
    obtain ⟨p, e, f⟩ := r
    exact ⟨p, e, by rw [h.mg]; exact f⟩
theorem VRs.mono {W W' : Wd} (h : WLe W W') : ∀ (ds : List D) (vs : List V), VRs W ds vs → VRs W' ds vs
  | [], _, r => by unfold VRs at r ⊢; exact r
  | d :: ds, vs, r => by
    unfold VRs at r ⊢
    obtain ⟨v, rr, e, a, b⟩ := r
    exact ⟨v, rr, e, VR.mono h d v a, VRs.mono h ds rr b⟩
end

mutual
/-- data without cells do not lean on where cells stand -/
theorem VR.nr {W W' : Wd} (hK : W'.K = W.K) (hm : W'.mg = W.mg) (hF : Le W.F W'.F) : ∀ (d : D) (v : V), NR d = true → VR W d v → VR W' d v
  | .non, _, _, r => r
  | .bl _, _, _, r => r
  | .int _, _, _, r => r
  | .str _, _, _, r => r
  | .tup xs, v, n, r => by
    unfold VR at r ⊢
    obtain ⟨p, vs, e, s, t⟩ := r
    exact ⟨p, vs, e, hF _ _ s, VRs.nr hK hm hF xs vs (by simpa [NR] using n) t⟩
  | .lst xs, v, n, r => by
    unfold VR at r ⊢
    obtain ⟨p, vs, e, s, t⟩ := r
    exact ⟨p, vs, e, hF _ _ s, VRs.nr hK hm hF xs vs (by simpa [NR] using n) t⟩
  | .slst xs, v, n, r => by
    unfold VR at r ⊢
    obtain ⟨p, vs, e, s, t⟩ := r
    exact ⟨p, vs, e, by rw [hK]; exact hF.sqL s, VRs.nr hK hm hF xs vs (by simpa [NR] using n) t⟩
  | .ins c fs xs, v, n, r => by
    unfold VR at r ⊢
    obtain ⟨p, C, dx, vs, e, m, f, l, t⟩ := r
    exact ⟨p, C, dx, vs, e, by rw [hm]; exact m, hF _ _ f, l, VRs.nr hK hm hF xs vs (by simpa [NR] using n) t⟩
  | .dic ks xs, v, n, r => by
    unfold VR at r ⊢
    obtain ⟨p, o, vs, e, f, dd, t⟩ := r
    exact ⟨p, o, vs, e, hF _ _ f, dd, VRs.nr hK hm hF xs vs (by simpa [NR] using n) t⟩
  | .ref _, _, n, _ => by simp [NR] at n
  | .gl x, v, _, r => by
    unfold VR at r ⊢
    obtain ⟨p, e, f⟩ := r
    exact ⟨p, e, by rw [hm]; exact f⟩
theorem VRs.nr {W W' : Wd} (hK : W'.K = W.K) (hm : W'.mg = W.mg) (hF : Le W.F W'.F) : ∀ (ds : List D) (vs : List V), NRs ds = true → VRs W ds vs → VRs W' ds vs
  | [], _, _, r => by unfold VRs at r ⊢; exact r
  | d :: ds, vs, n, r => by
    unfold VRs at r ⊢
    obtain ⟨v, rr, e, a, b⟩ := r
    have n' : NR d = true ∧ NRs ds = true := by simpa [NRs] using n
    exact ⟨v, rr, e, VR.nr hK hm hF d v n'.1 a, VRs.nr hK hm hF ds rr n'.2 b⟩
end

theorem VRs.length {W : Wd} : ∀ {ds : List D} {vs : List V}, VRs W ds vs → vs.length = ds.length
  | [], _, r => by unfold VRs at r; rw [r]; rfl
  | d :: ds, vs, r => by
    unfold VRs at r
    obtain ⟨v, rr, rfl, _, b⟩ := r
    simp [VRs.length b]
theorem VRs.nil {W : Wd} : VRs W [] [] := by unfold VRs; rfl
theorem VRs.cons {W : Wd} {d : D} {ds : List D} {v : V} {vs : List V} (a : VR W d v) (b : VRs W ds vs) : VRs W (d :: ds) (v :: vs) := by
  unfold VRs; exact ⟨v, vs, rfl, a, b⟩
theorem VRs.inv {W : Wd} {d : D} {ds : List D} {vs : List V} (r : VRs W (d :: ds) vs) : ∃ v rr, vs = v :: rr ∧ VR W d v ∧ VRs W ds rr := by
  unfold VRs at r; exact r
theorem VRs.inv0 {W : Wd} {vs : List V} (r : VRs W [] vs) : vs = [] := by unfold VRs at r; exact r
theorem VRs.get {W : Wd} : ∀ {ds : List D} {vs : List V} {i : Nat} {d : D}, VRs W ds vs → ds[i]? = some d → ∃ v, vs[i]? = some v ∧ VR W d v
  | [], _, i, d, _, e => by simp at e
  | d0 :: ds, vs, 0, d, r, e => by
    obtain ⟨v, rr, rfl, a, _⟩ := r.inv
    simp at e; subst e
    exact ⟨v, rfl, a⟩
  | d0 :: ds, vs, i + 1, d, r, e => by
    obtain ⟨v, rr, rfl, _, b⟩ := r.inv
    obtain ⟨w, h1, h2⟩ := VRs.get (i := i) (d := d) b (by simpa using e)
    exact ⟨w, by simpa using h1, h2⟩
theorem VRs.append {W : Wd} : ∀ {ds es : List D} {vs ws : List V}, VRs W ds vs → VRs W es ws → VRs W (ds ++ es) (vs ++ ws)
  | [], _, _, _, r, s => by rw [r.inv0]; exact s
  | d :: ds, es, vs, ws, r, s => by
    obtain ⟨v, rr, rfl, a, b⟩ := r.inv
    exact .cons a (VRs.append b s)
theorem VRs.set {W : Wd} {d : D} {v : V} (a : VR W d v) : ∀ {ds : List D} {vs : List V} (i : Nat), VRs W ds vs → VRs W (ds.set i d) (vs.set i v)
  | [], _, _, r => by rw [r.inv0]; exact .nil
  | d0 :: ds, vs, 0, r => by
    obtain ⟨w, rr, rfl, _, b⟩ := r.inv
    exact .cons a b
  | d0 :: ds, vs, i + 1, r => by
    obtain ⟨w, rr, rfl, c, b⟩ := r.inv
    exact .cons c (VRs.set a i b)
theorem VRs.take {W : Wd} : ∀ {ds : List D} {vs : List V} (n : Nat), VRs W ds vs → VRs W (ds.take n) (vs.take n)
  | [], _, n, r => by rw [r.inv0]; simp; exact .nil
  | d :: ds, vs, 0, r => by simp; exact .nil
  | d :: ds, vs, n + 1, r => by
    obtain ⟨w, rr, rfl, c, b⟩ := r.inv
    exact .cons c (VRs.take n b)
theorem VRs.drop {W : Wd} : ∀ {ds : List D} {vs : List V} (n : Nat), VRs W ds vs → VRs W (ds.drop n) (vs.drop n)
  | [], _, n, r => by rw [r.inv0]; simp; exact .nil
  | d :: ds, vs, 0, r => r
  | d :: ds, vs, n + 1, r => by
    obtain ⟨w, rr, rfl, c, b⟩ := r.inv
    exact VRs.drop n b
theorem VRs.eraseIdx {W : Wd} : ∀ {ds : List D} {vs : List V} (n : Nat), VRs W ds vs → VRs W (ds.eraseIdx n) (vs.eraseIdx n)
  | [], _, n, r => by rw [r.inv0]; simp; exact .nil
  | d :: ds, vs, 0, r => by
    obtain ⟨w, rr, rfl, c, b⟩ := r.inv
    exact b
  | d :: ds, vs, n + 1, r => by
    obtain ⟨w, rr, rfl, c, b⟩ := r.inv
    exact .cons c (VRs.eraseIdx n b)
theorem VRs.reverse {W : Wd} : ∀ {ds : List D} {vs : List V}, VRs W ds vs → VRs W ds.reverse vs.reverse
  | [], _, r => by rw [r.inv0]; exact .nil
  | d :: ds, vs, r => by
    obtain ⟨w, rr, rfl, c, b⟩ := r.inv
    rw [List.reverse_cons, List.reverse_cons]
    exact (VRs.reverse b).append (.cons c .nil)
theorem VRs.rep {W : Wd} {ds : List D} {vs : List V} (r : VRs W ds vs) : ∀ k : Nat, VRs W (List.replicate k ds).flatten (List.replicate k vs).flatten
  | 0 => .nil
  | k + 1 => by rw [List.replicate_succ, List.replicate_succ, List.flatten_cons, List.flatten_cons]; exact r.append (VRs.rep r k)
theorem VRs.none_of {W : Wd} {ds : List D} {vs : List V} {i : Nat} (r : VRs W ds vs) (e : ds[i]? = none) : vs[i]? = none := by
  rw [List.getElem?_eq_none_iff] at e ⊢
  rw [r.length]; exact e

def OR (W : Wd) (H : Hp) (p : Addr) : O → Prop
  | .lst xs => W.F p = none ∧ ∃ vs, H p = some (.lst vs) ∧ VRs W xs vs
  | .ins c fs xs => W.F p = none ∧ ∃ C dx vs, W.mg c = some (.ref C) ∧ H p = some (.ins C dx (fs.zip vs)) ∧ fs.length = xs.length ∧ VRs W xs vs
  | .dic ks xs => W.F p = none ∧ ∃ o vs, H p = some o ∧ DO o ks vs ∧ VRs W xs vs
  | .dead => ∃ u, H p = some u
structure RelM (W : Wd) (M : List O) (H : Hp) : Prop where
  sub : Le W.F H
  len : W.ι.length = M.length
  nd : W.ι.Nodup
  cell : ∀ (i : Nat) (o : O) (p : Addr), M[i]? = some o → W.ι[i]? = some p → OR W H p o
/-- the names of a frame -/
structure RelE (W : Wd) (env : List (Option D)) (σ : L2.St) : Prop where
  len : env.length = σ.length
  var : ∀ (i : Nat) (d : D), env[i]? = some (some d) → ∃ v, σ[i]? = some (some v) ∧ VR W d v
theorem RelE.mono {W W' : Wd} {env : List (Option D)} {σ : L2.St} (r : RelE W env σ) (h : WLe W W') : RelE W' env σ :=
  ⟨r.len, fun i d e => let ⟨v, a, b⟩ := r.var i d e; ⟨v, a, VR.mono h d v b⟩⟩
theorem RelE.set {W : Wd} {env : List (Option D)} {σ : L2.St} (r : RelE W env σ) {d : D} {v : V} (i : Nat) (h : VR W d v) : RelE W (env.set i (some d)) (σ.set i (some v)) := by
  refine ⟨by simp [r.len], fun j e hj => ?_⟩
  by_cases hij : i = j
  · subst hij
    have hl : i < env.length := by
      have := (List.getElem?_eq_some_iff.mp hj).1
      simpa using this
    rw [List.getElem?_set_self hl] at hj
    cases hj
    exact ⟨v, List.getElem?_set_self (by rw [← r.len]; exact hl), h⟩
  · rw [List.getElem?_set_ne hij] at hj
    rw [List.getElem?_set_ne hij]
    exact r.var j e hj

/-- from W, H to a later W', H': what is tracked stays but for the cells -/
structure Step (W : Wd) (H : Hp) (W' : Wd) (H' : Hp) : Prop where
  le : WLe W W'
  keep : ∀ a o, H a = some o → a ∉ W.ι → H' a = some o
  newF : ∀ a, W'.F a ≠ W.F a → H a = none ∨ a ∈ W.ι
  newC : ∀ a, a ∈ W'.ι → a ∉ W.ι → H a = none
theorem Step.refl {W : Wd} {H : Hp} : Step W H W H := ⟨.refl, fun _ _ h _ => h, fun _ h => absurd rfl h, fun _ h n => absurd h n⟩
theorem Step.trans {W W1 W2 : Wd} {H H1 H2 : Hp} (a : Step W H W1 H1) (b : Step W1 H1 W2 H2) : Step W H W2 H2 := by
  have nc : ∀ x o, H x = some o → x ∉ W.ι → x ∉ W1.ι := fun x o hx hn hm => by
    rw [a.newC x hm hn] at hx; cases hx
  refine ⟨a.le.trans b.le, fun x o hx hn => b.keep x o (a.keep x o hx hn) (nc x o hx hn), fun x hx => ?_, fun x hx hn => ?_⟩
  · by_cases h1 : W1.F x = W.F x
    · rcases b.newF x (by rw [h1]; exact hx) with h | h
      · cases e : H x with
        | none => exact .inl rfl
        | some o =>
          by_cases hn : x ∈ W.ι
          · exact .inr hn
          · rw [a.keep x o e hn] at h; cases h
      · by_cases hn : x ∈ W.ι
        · exact .inr hn
        · exact .inl (a.newC x h hn)
    · exact a.newF x h1
  · by_cases h1 : x ∈ W1.ι
    · exact a.newC x h1 hn
    · have h2 := b.newC x hx h1
      cases e : H x with
      | none => rfl
      | some o => rw [a.keep x o e hn] at h2; cases h2
theorem OR.mono {W W' : Wd} {H : Hp} {p : Addr} {o : O} (h : WLe W W') (hp : o ≠ .dead → W'.F p = W.F p) (r : OR W H p o) : OR W' H p o := by
  cases o with
  | lst xs =>
    obtain ⟨f, vs, e, t⟩ := r
    exact ⟨by rw [hp (by simp)]; exact f, vs, e, VRs.mono h _ _ t⟩
  | ins c fs xs =>
    obtain ⟨f, C, dx, vs, m, e, l, t⟩ := r
    exact ⟨by rw [hp (by simp)]; exact f, C, dx, vs, by rw [h.mg]; exact m, e, l, VRs.mono h _ _ t⟩
  | dic ks xs =>
    obtain ⟨f, o, vs, e, dd, t⟩ := r
    exact ⟨by rw [hp (by simp)]; exact f, o, vs, e, dd, VRs.mono h _ _ t⟩
  | dead => exact r
theorem OR.heap {W : Wd} {H H' : Hp} {p : Addr} {o : O} (h : ∀ u, H p = some u → H' p = some u) (r : OR W H p o) : OR W H' p o := by
  cases o with
  | lst xs => obtain ⟨f, vs, e, t⟩ := r; exact ⟨f, vs, h _ e, t⟩
  | ins c fs xs => obtain ⟨f, C, dx, vs, m, e, l, t⟩ := r; exact ⟨f, C, dx, vs, m, h _ e, l, t⟩
  | dic ks xs => obtain ⟨f, o, vs, e, dd, t⟩ := r; exact ⟨f, o, vs, h _ e, dd, t⟩
  | dead => obtain ⟨u, e⟩ := r; exact ⟨u, h u e⟩
theorem OR.there {W : Wd} {H : Hp} {p : Addr} {o : O} (r : OR W H p o) : ∃ u, H p = some u := by
  cases o with
  | lst xs => obtain ⟨_, vs, e, _⟩ := r; exact ⟨_, e⟩
  | ins c fs xs => obtain ⟨_, _, _, _, _, e, _⟩ := r; exact ⟨_, e⟩
  | dic ks xs => obtain ⟨_, _, _, e, _⟩ := r; exact ⟨_, e⟩
  | dead => exact r
theorem OR.free {W : Wd} {H : Hp} {p : Addr} {o : O} (r : OR W H p o) (h : o ≠ .dead) : W.F p = none := by
  cases o with
  | lst xs => exact r.1
  | ins c fs xs => exact r.1
  | dic ks xs => exact r.1
  | dead => exact absurd rfl h
theorem RelM.there {W : Wd} {M : List O} {H : Hp} (r : RelM W M H) {p : Addr} (h : p ∈ W.ι) : ∃ u, H p = some u := by
  obtain ⟨i, hi⟩ := List.mem_iff_getElem?.mp h
  have hl : i < M.length := by rw [← r.len]; exact (List.getElem?_eq_some_iff.mp hi).1
  exact (r.cell i M[i] p (List.getElem?_eq_getElem hl) hi).there

/-- a new object, frozen -/
theorem RelM.lay {W : Wd} {M : List O} {H : Hp} {p : Addr} {o : HO} (r : RelM W M H) (hp : H p = none) :
    RelM { W with F := upd W.F p o } M (upd H p o) ∧ Step W H { W with F := upd W.F p o } (upd H p o) := by
  have fp : W.F p = none := by
    cases e : W.F p with
    | none => rfl
    | some u => rw [r.sub p u e] at hp; cases hp
  have le : WLe W { W with F := upd W.F p o } := ⟨rfl, rfl, Le.upd fp, fun _ _ h => h⟩
  refine ⟨⟨fun a u e => ?_, r.len, r.nd, fun i c q hi hq => ?_⟩, ⟨le, fun a u e _ => ?_, fun a h => ?_, fun _ h n => absurd h n⟩⟩
  · by_cases h : a = p
    · subst h
      have e : upd W.F a o a = some u := e
      rw [upd_same] at e ⊢; exact e
    · have e : upd W.F p o a = some u := e
      rw [upd_ne h] at e ⊢; exact r.sub a u e
  · have q1 := r.cell i c q hi hq
    obtain ⟨u, hu⟩ := q1.there
    have ne : q ≠ p := by rintro rfl; rw [hp] at hu; cases hu
    exact OR.heap (H := H) (fun u h => by rw [upd_ne ne]; exact h) (q1.mono le fun _ => upd_ne ne)
  · have ne : a ≠ p := by rintro rfl; rw [hp] at e; cases e
    rw [upd_ne ne]; exact e
  · by_cases e : a = p
    · subst e; exact .inl hp
    · exact absurd (show upd W.F p o a = W.F a from upd_ne e) h
/-- a new object, a cell -/
theorem RelM.cellNew {W : Wd} {M : List O} {H : Hp} {p : Addr} {o : HO} {c : O} (r : RelM W M H) (hp : H p = none)
    (hc : OR { W with ι := W.ι ++ [p] } (upd H p o) p c) :
    RelM { W with ι := W.ι ++ [p] } (M ++ [c]) (upd H p o) ∧ Step W H { W with ι := W.ι ++ [p] } (upd H p o) := by
  have fp : ∀ a u, H a = some u → a ≠ p := fun a u h e => by subst e; rw [hp] at h; cases h
  have le : WLe W { W with ι := W.ι ++ [p] } := ⟨rfl, rfl, Le.refl, fun i q h => by
    show (W.ι ++ [p])[i]? = some q
    rw [List.getElem?_append_left (List.getElem?_eq_some_iff.mp h).1]; exact h⟩
  refine ⟨⟨fun a u e => ?_, by simp [r.len], ?_, fun i d q hi hq => ?_⟩, ⟨le, fun a u e _ => by rw [upd_ne (fp a u e)]; exact e, fun a h => absurd rfl h, fun a h n => ?_⟩⟩
  · have h := r.sub a u e
    rw [upd_ne (fp a u h)]; exact h
  · show (W.ι ++ [p]).Nodup
    rw [List.nodup_append]
    refine ⟨r.nd, by simp, fun a ha b hb => ?_⟩
    simp at hb; subst hb
    obtain ⟨u, hu⟩ := r.there ha
    exact fp a u hu
  · by_cases hl : i < M.length
    · rw [List.getElem?_append_left hl] at hi
      have hq : (W.ι ++ [p])[i]? = some q := hq
      rw [List.getElem?_append_left (by rw [r.len]; exact hl)] at hq
      have q1 := r.cell i d q hi hq
      exact OR.heap (H := H) (fun u h => by rw [upd_ne (fp _ _ h)]; exact h) (q1.mono le fun _ => rfl)
    · have hi2 := (List.getElem?_eq_some_iff.mp hi).1
      have e : i = M.length := by simp at hi2; omega
      subst e
      simp at hi; subst hi
      have hq : (W.ι ++ [p])[M.length]? = some q := hq
      rw [← r.len] at hq
      simp at hq; subst hq
      exact hc
  · rcases List.mem_append.mp h with h | h
    · exact absurd h n
    · simp at h; subst h; exact hp
end Mi
end
section
set_option maxHeartbeats 4000000
namespace Mi
open PySem (Str Addr Value Expr Stmt Pos)
open L2 (V Hp HO SqL SqT upd upd_same upd_ne Cx TE TT TA TS PE PT PA PS PSs VK St Ends)

abbrev Env := List (Option D)
abbrev QE := D → List O → Prop
abbrev QB := Bool → List O → Prop
abbrev QL := List D → List O → Prop
abbrev XQ := D → List O → Prop
/-- readings: an expression's, a test's, a list's (arguments; what makes a list) -/
abbrev TM := Env → List O → QE → XQ → Prop
abbrev TB := Env → List O → QB → XQ → Prop
abbrev TL := Env → List O → QL → XQ → Prop

/-- where a def's body began, and what is wanted of what it raises -/
structure Anc where
  W : Wd
  H : Hp
  E : XQ
structure Fit (A : Anc) (X : Cx) : Prop where
  K : A.W.K = X.K
  mg : A.W.mg = X.mg

/-- a state of ours stands behind the slots and the heap -/
structure Sit (A : Anc) (W : Wd) (env : Env) (M : List O) (σ : St) (H : Hp) : Prop where
  st : Step A.W A.H W H
  rm : RelM W M H
  re : RelE W env σ
theorem Sit.next {A : Anc} {W W' : Wd} {env : Env} {M M' : List O} {σ : St} {H H' : Hp} (s : Sit A W env M σ H) (st : Step W H W' H') (rm : RelM W' M' H') : Sit A W' env M' σ H' :=
  ⟨s.st.trans st, rm, s.re.mono st.le⟩
theorem Sit.K {A : Anc} {X : Cx} {W : Wd} {env : Env} {M : List O} {σ : St} {H : Hp} (s : Sit A W env M σ H) (f : Fit A X) : W.K = X.K := s.st.le.K.trans f.K
theorem Sit.mg {A : Anc} {X : Cx} {W : Wd} {env : Env} {M : List O} {σ : St} {H : Hp} (s : Sit A W env M σ H) (f : Fit A X) : W.mg = X.mg := s.st.le.mg.trans f.mg

def lf (A : Anc) (m : TM) : TE := fun σ H Q => ∃ W env M P, Sit A W env M σ H ∧ m env M P A.E ∧
  ∀ W' d M' v H', Step W H W' H' → RelM W' M' H' → VR W' d v → P d M' → Q v H'
def lft (A : Anc) (m : TB) : TT := fun σ H Q => ∃ W env M P, Sit A W env M σ H ∧ m env M P A.E ∧
  ∀ W' b M' H', Step W H W' H' → RelM W' M' H' → P b M' → Q b H'
def lfa (A : Anc) (m : TL) : TA := fun σ H Q => ∃ W env M P, Sit A W env M σ H ∧ m env M P A.E ∧
  ∀ W' ds M' vs H', Step W H W' H' → RelM W' M' H' → VRs W' ds vs → P ds M' → Q vs H'
/-- a list just made, named by nothing -/
structure Loose (W : Wd) (H : Hp) (p : Addr) (xs : List D) : Prop where
  F : W.F p = none
  ι : p ∉ W.ι
  at_ : ∃ vs, H p = some (.lst vs) ∧ VRs W xs vs
def lfl (A : Anc) (m : TL) : TE := fun σ H Q => ∃ W env M P, Sit A W env M σ H ∧ m env M P A.E ∧
  ∀ W' xs M' p H', Step W H W' H' → RelM W' M' H' → Loose W' H' p xs → H p = none → P xs M' → Q (.ref p) H'
abbrev ME (A : Anc) (X : Cx) (x : Expr) (m : TM) : Prop := PE X x (lf A m)
abbrev MT (A : Anc) (X : Cx) (x : Expr) (m : TB) : Prop := PT X x (lft A m)
abbrev MA (A : Anc) (X : Cx) (xs : List Expr) (m : TL) : Prop := PA X xs (lfa A m)
abbrev ML (A : Anc) (X : Cx) (x : Expr) (m : TL) : Prop := PE X x (lfl A m)

theorem pe_imp {X : Cx} {e : Expr} {t t' : TE} (h : PE X e t) (i : ∀ σ H Q, t' σ H Q → t σ H Q) : PE X e t' := ⟨fun pins s σ H Q I hw => h.run pins s σ H Q I (i σ H Q hw)⟩
theorem pt_imp {X : Cx} {e : Expr} {t t' : TT} (h : PT X e t) (i : ∀ σ H Q, t' σ H Q → t σ H Q) : PT X e t' := ⟨fun pins s σ H Q I hw => h.run pins s σ H Q I (i σ H Q hw)⟩
theorem pw_imp {X : Cx} {e : Expr} {t t' : TT} (h : L2.PW X e t) (i : ∀ σ H Q, t' σ H Q → t σ H Q) : L2.PW X e t' := ⟨fun wh pins s σ H Q I hw => h.run wh pins s σ H Q I (i σ H Q hw)⟩
theorem pa_imp {X : Cx} {e : List Expr} {t t' : TA} (h : PA X e t) (i : ∀ σ H Q, t' σ H Q → t σ H Q) : PA X e t' := ⟨fun pos pins s σ H Q I hw => h.run pos pins s σ H Q I (i σ H Q hw)⟩
theorem ps_imp {X : Cx} {e : Stmt} {t t' : TS} (h : PS X e t) (i : ∀ D σ H, t' D σ H → t D σ H) : PS X e t' := ⟨fun pins s σ H Q I hw => h.run pins s σ H Q I (i Q σ H hw)⟩
theorem pss_imp {X : Cx} {e : List Stmt} {t t' : TS} (h : PSs X e t) (i : ∀ D σ H, t' D σ H → t D σ H) : PSs X e t' := ⟨fun pins s σ H Q I hw => h.run pins s σ H Q I (i Q σ H hw)⟩

theorem RelM.loose {W : Wd} {M : List O} {H : Hp} {p : Addr} {o : HO} (r : RelM W M H) (hp : H p = none) :
    RelM W M (upd H p o) ∧ Step W H W (upd H p o) ∧ W.F p = none ∧ p ∉ W.ι := by
  have fp : ∀ a u, H a = some u → a ≠ p := fun a u h e => by subst e; rw [hp] at h; cases h
  refine ⟨⟨fun a u e => ?_, r.len, r.nd, fun i d q hi hq => ?_⟩, ⟨.refl, fun a u e _ => by rw [upd_ne (fp a u e)]; exact e, fun a h => absurd rfl h, fun _ h n => absurd h n⟩, ?_, fun h => ?_⟩
  · have h := r.sub a u e
    rw [upd_ne (fp a u h)]; exact h
  · exact OR.heap (H := H) (fun u h => by rw [upd_ne (fp _ _ h)]; exact h) (r.cell i d q hi hq)
  · cases e : W.F p with
    | none => rfl
    | some u => have := r.sub p u e; rw [hp] at this; cases this
  · obtain ⟨u, hu⟩ := r.there h
    exact fp p u hu rfl
theorem RelM.freeze {W : Wd} {M : List O} {H : Hp} {p : Addr} {o : HO} (r : RelM W M H) (hp : H p = some o) (hF : W.F p = none) (hι : p ∉ W.ι) :
    RelM { W with F := upd W.F p o } M H ∧ WLe W { W with F := upd W.F p o } := by
  have le : WLe W { W with F := upd W.F p o } := ⟨rfl, rfl, Le.upd hF, fun _ _ h => h⟩
  refine ⟨⟨fun a u e => ?_, r.len, r.nd, fun i c q hi hq => (r.cell i c q hi hq).mono le fun _ => upd_ne ?_⟩, le⟩
  · by_cases h : a = p
    · subst h
      have e : upd W.F a o a = some u := e
      rw [upd_same] at e; cases e; exact hp
    · have e : upd W.F p o a = some u := e
      rw [upd_ne h] at e; exact r.sub a u e
  · rintro rfl
    exact hι (List.mem_of_getElem? hq)
theorem Step.freeze {W0 W : Wd} {H0 H : Hp} {p : Addr} {o : HO} (s : Step W0 H0 W H) (hF : W.F p = none) (h0 : H0 p = none) : Step W0 H0 { W with F := upd W.F p o } H := by
  refine ⟨s.le.trans ⟨rfl, rfl, Le.upd hF, fun _ _ h => h⟩, s.keep, fun a h => ?_, s.newC⟩
  by_cases e : a = p
  · subst e; exact .inl h0
  · have h2 : (upd W.F p o) a ≠ W0.F a := h
    rw [upd_ne e] at h2
    exact s.newF a h2
theorem RelM.adopt {W : Wd} {M : List O} {H : Hp} {p : Addr} {c : O} (r : RelM W M H) (hι : p ∉ W.ι) (hc : OR { W with ι := W.ι ++ [p] } H p c) :
    RelM { W with ι := W.ι ++ [p] } (M ++ [c]) H ∧ WLe W { W with ι := W.ι ++ [p] } := by
  have le : WLe W { W with ι := W.ι ++ [p] } := ⟨rfl, rfl, Le.refl, fun i q h => by
    show (W.ι ++ [p])[i]? = some q
    rw [List.getElem?_append_left (List.getElem?_eq_some_iff.mp h).1]; exact h⟩
  refine ⟨⟨r.sub, by simp [r.len], ?_, fun i d q hi hq => ?_⟩, le⟩
  · show (W.ι ++ [p]).Nodup
    rw [List.nodup_append]
    refine ⟨r.nd, by simp, fun a ha b hb => ?_⟩
    simp at hb; subst hb
    rintro rfl; exact hι ha
  · by_cases hl : i < M.length
    · rw [List.getElem?_append_left hl] at hi
      have hq : (W.ι ++ [p])[i]? = some q := hq
      rw [List.getElem?_append_left (by rw [r.len]; exact hl)] at hq
      exact (r.cell i d q hi hq).mono le fun _ => rfl
    · have hi2 := (List.getElem?_eq_some_iff.mp hi).1
      have e : i = M.length := by simp at hi2; omega
      subst e
      simp at hi; subst hi
      have hq : (W.ι ++ [p])[M.length]? = some q := hq
      rw [← r.len] at hq
      simp at hq; subst hq
      exact hc
theorem Step.adopt {W0 W : Wd} {H0 H : Hp} {p : Addr} (s : Step W0 H0 W H) (h0 : H0 p = none) : Step W0 H0 { W with ι := W.ι ++ [p] } H := by
  refine ⟨s.le.trans ⟨rfl, rfl, Le.refl, fun i q h => ?_⟩, s.keep, s.newF, fun a h n => ?_⟩
  · show (W.ι ++ [p])[i]? = some q
    rw [List.getElem?_append_left (List.getElem?_eq_some_iff.mp h).1]; exact h
  · rcases List.mem_append.mp h with h | h
    · exact s.newC a h n
    · simp at h; subst h; exact h0
/-- a cell written -/
theorem RelM.put {W : Wd} {M : List O} {H : Hp} {p : Addr} {i : Nat} {c : O} {o : HO} (r : RelM W M H) (hi : W.ι[i]? = some p) (hF : W.F p = none) (hc : OR W (upd H p o) p c) :
    RelM W (M.set i c) (upd H p o) ∧ Step W H W (upd H p o) := by
  have mem : p ∈ W.ι := List.mem_of_getElem? hi
  refine ⟨⟨fun a u e => ?_, by simp [r.len], r.nd, fun j d q hj hq => ?_⟩, ⟨.refl, fun a u e n => ?_, fun a h => absurd rfl h, fun _ h n => absurd h n⟩⟩
  · have ne : a ≠ p := by rintro rfl; rw [hF] at e; cases e
    rw [upd_ne ne]; exact r.sub a u e
  · by_cases hij : i = j
    · subst hij
      rw [hi] at hq; cases hq
      have hl : i < M.length := by rw [← r.len]; exact (List.getElem?_eq_some_iff.mp hi).1
      rw [List.getElem?_set_self hl] at hj; cases hj
      exact hc
    · rw [List.getElem?_set_ne hij] at hj
      have ne : q ≠ p := fun e => by
        subst e
        obtain ⟨h1, e1⟩ := List.getElem?_eq_some_iff.mp hi
        obtain ⟨h2, e2⟩ := List.getElem?_eq_some_iff.mp hq
        exact hij ((List.getElem_inj r.nd).mp (e1.trans e2.symm))
      exact OR.heap (H := H) (fun u h => by rw [upd_ne ne]; exact h) (r.cell j d q hj hq)
  · have ne : a ≠ p := by rintro rfl; exact n mem
    rw [upd_ne ne]; exact e

/-- what is free later was free before -/
theorem back_none {W W' : Wd} {H H' : Hp} {M' : List O} {p : Addr} (s : Step W H W' H') (r' : RelM W' M' H') (h : H' p = none) : H p = none := by
  cases e : H p with
  | none => rfl
  | some o =>
    by_cases hm : p ∈ W.ι
    · obtain ⟨i, hi⟩ := List.mem_iff_getElem?.mp hm
      obtain ⟨u, hu⟩ := r'.there (List.mem_of_getElem? (s.le.ι i p hi))
      rw [h] at hu; cases hu
    · rw [s.keep p o e hm] at h; cases h

def mVar (i : Nat) : TM := fun env M P _ => ∃ d, env[i]? = some (some d) ∧ P d M
def mCon (d : D) : TM := fun _ M P _ => P d M
theorem me_var {A : Anc} {X : Cx} {i : Nat} {x : Expr} (h : PE X x (L2.tVar i)) : ME A X x (mVar i) := pe_imp h fun σ H Q ⟨W, env, M, P, s, ⟨d, hd, hp⟩, k⟩ => by
  obtain ⟨v, hv, r⟩ := s.re.var i d hd
  exact ⟨v, hv, k W d M v H .refl s.rm r hp⟩
theorem me_con {A : Anc} {X : Cx} {d : D} {v : V} {x : Expr} (h : PE X x (L2.tC v)) (r : ∀ W : Wd, W.mg = A.W.mg → W.K = A.W.K → VR W d v) : ME A X x (mCon d) := pe_imp h fun σ H Q ⟨W, env, M, P, s, hp, k⟩ =>
  k W d M v H .refl s.rm (r W s.st.le.mg s.st.le.K) hp
theorem me_int {A : Anc} {X : Cx} {i : Int} {j pos} : ME A X (.Constant (.int i) j pos) (mCon (.int i)) := me_con L2.pe_int fun _ _ _ => by unfold VR; rfl
theorem me_bl {A : Anc} {X : Cx} {b : Bool} {j pos} : ME A X (.Constant (.bool b) j pos) (mCon (.bl b)) := me_con L2.pe_bl fun _ _ _ => by unfold VR; rfl
theorem me_non {A : Anc} {X : Cx} {j pos} : ME A X (.Constant .none j pos) (mCon .non) := me_con L2.pe_non fun _ _ _ => by unfold VR; rfl
theorem me_str {A : Anc} {X : Cx} {x : Str} {j pos} : ME A X (.Constant (.str x) j pos) (mCon (.str x)) := me_con L2.pe_str fun _ _ _ => by unfold VR; rfl

def m1 (f : D → List O → Option D) (a : TM) : TM := fun env M P E => a env M (fun d M1 => ∃ r, f d M1 = some r ∧ P r M1) E
def m2 (f : D → D → List O → Option D) (a b : TM) : TM := fun env M P E => a env M (fun d M1 => b env M1 (fun e M2 => ∃ r, f d e M2 = some r ∧ P r M2) E) E
def mN (f : List D → List O → Option D) (a : TL) : TM := fun env M P E => a env M (fun ds M1 => ∃ r, f ds M1 = some r ∧ P r M1) E
def l1 (f : D → List O → Option (List D)) (a : TM) : TL := fun env M P E => a env M (fun d M1 => ∃ r, f d M1 = some r ∧ P r M1) E
def l2 (f : D → D → List O → Option (List D)) (a b : TM) : TL := fun env M P E => a env M (fun d M1 => b env M1 (fun e M2 => ∃ r, f d e M2 = some r ∧ P r M2) E) E

/-- what a rule by values asks is what f says -/
def Prim1 (X : Cx) (r : V → Hp → VK → Prop) (f : D → List O → Option D) : Prop :=
  ∀ (W : Wd) (M : List O) (H : Hp) (d : D) (v : V) (e : D) (Q : VK), W.K = X.K → W.mg = X.mg → RelM W M H → VR W d v → f d M = some e →
    (∀ W' u H', Step W H W' H' → RelM W' M H' → VR W' e u → Q u H') → r v H Q
def Prim2 (X : Cx) (r : L2.R2) (f : D → D → List O → Option D) : Prop :=
  ∀ (W : Wd) (M : List O) (H : Hp) (d d2 : D) (v v2 : V) (e : D) (Q : VK), W.K = X.K → W.mg = X.mg → RelM W M H → VR W d v → VR W d2 v2 → f d d2 M = some e →
    (∀ W' u H', Step W H W' H' → RelM W' M H' → VR W' e u → Q u H') → r v v2 H Q
def PrimN (X : Cx) (r : List V → Hp → VK → Prop) (f : List D → List O → Option D) : Prop :=
  ∀ (W : Wd) (M : List O) (H : Hp) (ds : List D) (vs : List V) (e : D) (Q : VK), W.K = X.K → W.mg = X.mg → RelM W M H → VRs W ds vs → f ds M = some e →
    (∀ W' u H', Step W H W' H' → RelM W' M H' → VR W' e u → Q u H') → r vs H Q
def PrimL1 (X : Cx) (r : V → Hp → VK → Prop) (f : D → List O → Option (List D)) : Prop :=
  ∀ (W : Wd) (M : List O) (H : Hp) (d : D) (v : V) (e : List D) (Q : VK), W.K = X.K → W.mg = X.mg → RelM W M H → VR W d v → f d M = some e →
    (∀ W' p H', Step W H W' H' → RelM W' M H' → Loose W' H' p e → H p = none → Q (.ref p) H') → r v H Q
def PrimL2 (X : Cx) (r : L2.R2) (f : D → D → List O → Option (List D)) : Prop :=
  ∀ (W : Wd) (M : List O) (H : Hp) (d d2 : D) (v v2 : V) (e : List D) (Q : VK), W.K = X.K → W.mg = X.mg → RelM W M H → VR W d v → VR W d2 v2 → f d d2 M = some e →
    (∀ W' p H', Step W H W' H' → RelM W' M H' → Loose W' H' p e → H p = none → Q (.ref p) H') → r v v2 H Q

/-- a value that is True or False, as a test -/
def mT (m : TM) : TB := fun env M P E => m env M (fun d M' => ∃ b, d = .bl b ∧ P b M') E
theorem mt_of {A : Anc} {X : Cx} {x : Expr} {m : TM} {t : TE} (hx : PT X x (L2.tTest t)) (i : ∀ σ H Q, lf A m σ H Q → t σ H Q) : MT A X x (mT m) := by
  refine pt_imp hx fun σ H Q ⟨W, env, M, P, s, h, k⟩ => i σ H _ ⟨W, env, M, _, s, h, fun W' d M' v H' st rm r ⟨b, e, hp⟩ => ?_⟩
  subst e
  unfold VR at r
  exact ⟨b, r, k W' b M' H' st rm hp⟩
theorem mt_val {A : Anc} {X : Cx} {x : Expr} {m : TM} (hx : ME A X x m) (he : ∀ whole, PySem.isTrue x X.env whole = (do let v ← whole; PySem.standAt x.pos; PySem.holding [v] (PySem.truthy v)) := by intro _; rfl) : MT A X x (mT m) :=
  mt_of (t := lf A m) (L2.pt_val hx he) fun _ _ _ h => h

section
variable {A : Anc} {X : Cx} (F : Fit A X)
include F
theorem imp1 {ma : TM} {r : V → Hp → VK → Prop} {f : D → List O → Option D} (p : Prim1 X r f) : ∀ σ H Q, lf A (m1 f ma) σ H Q → lf A ma σ H fun v H1 => r v H1 Q := by
  intro σ H Q ⟨W, env, M, P, s, h, k⟩
  refine ⟨W, env, M, _, s, h, fun W1 d M1 v H1 s1 rm1 r1 ⟨e, he, hp⟩ => ?_⟩
  have S1 := s.next s1 rm1
  exact p W1 M1 H1 d v e Q (S1.K F) (S1.mg F) rm1 r1 he fun W' u H' st rm ru => k W' e M1 u H' (s1.trans st) rm ru hp
theorem imp2 {ma mb : TM} {r : L2.R2} {f : D → D → List O → Option D} (p : Prim2 X r f) : ∀ σ H Q, lf A (m2 f ma mb) σ H Q → L2.tOp r (lf A ma) (lf A mb) σ H Q := by
  intro σ H Q ⟨W, env, M, P, s, h, k⟩
  refine ⟨W, env, M, _, s, h, fun W1 d M1 v H1 s1 rm1 r1 h1 => ?_⟩
  have S1 := s.next s1 rm1
  refine ⟨W1, env, M1, _, S1, h1, fun W2 d2 M2 v2 H2 s2 rm2 r2 ⟨e, he, hp⟩ => ?_⟩
  have S2 := S1.next s2 rm2
  exact p W2 M2 H2 d d2 v v2 e Q (S2.K F) (S2.mg F) rm2 (VR.mono s2.le _ _ r1) r2 he fun W' u H' st rm ru => k W' e M2 u H' ((s1.trans s2).trans st) rm ru hp
theorem impN {ma : TL} {r : List V → Hp → VK → Prop} {f : List D → List O → Option D} (p : PrimN X r f) : ∀ σ H Q, lf A (mN f ma) σ H Q → L2.tCB r (lfa A ma) σ H Q := by
  intro σ H Q ⟨W, env, M, P, s, h, k⟩
  refine ⟨W, env, M, _, s, h, fun W1 d M1 v H1 s1 rm1 r1 ⟨e, he, hp⟩ => ?_⟩
  have S1 := s.next s1 rm1
  exact p W1 M1 H1 d v e Q (S1.K F) (S1.mg F) rm1 r1 he fun W' u H' st rm ru => k W' e M1 u H' (s1.trans st) rm ru hp
theorem me1 {x : Expr} {ma : TM} {r : V → Hp → VK → Prop} {f : D → List O → Option D} (hx : PE X x (fun σ H Q => lf A ma σ H fun v H1 => r v H1 Q)) (p : Prim1 X r f) : ME A X x (m1 f ma) := pe_imp hx (imp1 F p)
theorem me2 {x : Expr} {ma mb : TM} {r : L2.R2} {f : D → D → List O → Option D} (hx : PE X x (L2.tOp r (lf A ma) (lf A mb))) (p : Prim2 X r f) : ME A X x (m2 f ma mb) := pe_imp hx (imp2 F p)
theorem meN {x : Expr} {ma : TL} {r : List V → Hp → VK → Prop} {f : List D → List O → Option D} (hx : PE X x (L2.tCB r (lfa A ma))) (p : PrimN X r f) : ME A X x (mN f ma) := pe_imp hx (impN F p)
theorem ml1 {x : Expr} {ma : TM} {r : V → Hp → VK → Prop} {f : D → List O → Option (List D)} (hx : PE X x (fun σ H Q => lf A ma σ H fun v H1 => r v H1 Q)) (p : PrimL1 X r f) : ML A X x (l1 f ma) := by
  refine pe_imp hx fun σ H Q ⟨W, env, M, P, s, h, k⟩ => ⟨W, env, M, _, s, h, fun W1 d M1 v H1 s1 rm1 r1 ⟨e, he, hp⟩ => ?_⟩
  have S1 := s.next s1 rm1
  refine p W1 M1 H1 d v e Q (S1.K F) (S1.mg F) rm1 r1 he fun W' q H' st rm lo hn => k W' e M1 q H' (s1.trans st) rm lo ?_ hp
  exact back_none s1 rm1 hn
theorem ml2 {x : Expr} {ma mb : TM} {r : L2.R2} {f : D → D → List O → Option (List D)} (hx : PE X x (L2.tOp r (lf A ma) (lf A mb))) (p : PrimL2 X r f) : ML A X x (l2 f ma mb) := by
  refine pe_imp hx fun σ H Q ⟨W, env, M, P, s, h, k⟩ => ⟨W, env, M, _, s, h, fun W1 d M1 v H1 s1 rm1 r1 h1 => ?_⟩
  have S1 := s.next s1 rm1
  refine ⟨W1, env, M1, _, S1, h1, fun W2 d2 M2 v2 H2 s2 rm2 r2 ⟨e, he, hp⟩ => ?_⟩
  have S2 := S1.next s2 rm2
  refine p W2 M2 H2 d d2 v v2 e Q (S2.K F) (S2.mg F) rm2 (VR.mono s2.le _ _ r1) r2 he fun W' q H' st rm lo hn => k W' e M2 q H' ((s1.trans s2).trans st) rm lo ?_ hp
  exact back_none (s1.trans s2) rm2 hn
end
end Mi
end
section
set_option maxHeartbeats 4000000
namespace L2
open PySem PySem.Spec PyProof.Rows
theorem tuple_mul1 (l : Addr) (items : Array Value) (n : Nat) (dd : Option Addr) (sl : Array (Option Value)) (u : Tok) :
    Meets (Builtin.«tuple.__mul__» ⟨[.ref l, .int 1 u], []⟩) (fun _ R s => s.heap.get? l = some { cls := .type "tuple", dict := dd, data := .seq items n, slots := sl } ∧
      R (.ok (.ret (Value.ref l))) s) :=
  .of_wp fun prog w A R s h => by
    obtain ⟨hp, g, d, tk, os⟩ := s
    obtain ⟨hl, h⟩ := h
    have f1 := AutoSeq1.idx_int
    wp_walk using wpAny_loadPart' hl
    exact ⟨_, rfl, h⟩
/-- t * 1 is t -/
def rRepT1 (K : PySem.W.Frag) : R2 := fun x y H Q => ∃ l xs, x = .ref l ∧ y = .int 1 ∧ SqT K H l xs ∧ Q (.ref l) H
theorem op_repT1 {X : Cx} : OpR X (binaryOp .Mult) (rRepT1 X.K) := by
  intro pins s σ H x y v u Q I rx ry h
  obtain ⟨l, xs, rfl, rfl, hT, q⟩ := h
  cases rx
  obtain ⟨t, rfl⟩ := ry
  obtain ⟨its, r, ⟨⟨cls, dd, data, sl⟩, ho, hc, n, hd⟩, hs⟩ := I.tuple hT
  simp only at hc hd
  subst hc hd
  refine wpAny_binaryOp_repeat_ref (T := "tuple") (U := "int") (by decide) ⟨_, ho, rfl⟩ (fun s' => typeIs_int s' 1 t) noFill_tuple_mul F.fills_int_mul F.slot_int_rmul repeat_tuple F.slot_int_index.lookup
    (call_meets F.slot_int_rmul (typeIs_int s 1 t) F.entry_int_rmul (F.args_int_rmul_2 _ _) (int_rmul_tuple 1 t l its.toArray n dd sl)
      ⟨ho, rfl, ⟨_, ho, rfl⟩, call_meets F.slot_tuple_mul ⟨_, ho, rfl⟩ F.entry_tuple_mul (F.args_tuple_mul_2 _ _) (tuple_mul1 l its.toArray n dd sl t) ⟨ho, ?_⟩⟩)
  exact ⟨.ref l, H, I, rfl, q⟩
end L2
namespace Mi
open PySem (Str Addr Value Expr Stmt Pos PyData)
open L2 (V Hp HO SqL SqT upd upd_same upd_ne Cx TE TT TA TS PE PT PA PS PSs VK St Ends)

/-- the line of sizes -/
abbrev lim : Nat := 16777216
theorem lim_eq : PySem.sizeLine = lim := PySem.sizeLine_eq
/-- what is read at a cell -/
def rdO (a : Nat) : Option O → D
  | some (.lst xs) => .lst xs
  | some (.ins c fs xs) => .ins c fs xs
  | some (.dic ks xs) => .dic ks xs
  | _ => .ref a
def rd (M : List O) : D → D
  | .ref a => rdO a M[a]?
  | d => d
theorem rd_ref (M : List O) (a : Nat) : rd M (.ref a) = rdO a M[a]? := rfl
section
variable {W : Wd} {M : List O} {H : Hp} {d : D} {v : V}
theorem rd_cases (d : D) : rd M d = d ∨ ∃ a, d = .ref a := by
  cases d <;> first | exact .inl rfl | exact .inr ⟨_, rfl⟩
theorem rd_lst {xs : List D} (r : RelM W M H) (h : VR W d v) (e : rd M d = .lst xs) : ∃ p vs, v = .ref p ∧ SqL W.K H p vs ∧ VRs W xs vs := by
  rcases rd_cases (M := M) d with q | ⟨a, rfl⟩
  · rw [q] at e; subst e
    unfold VR at h
    obtain ⟨p, vs, rfl, s, t⟩ := h
    exact ⟨p, vs, rfl, .of (r.sub _ _ s), t⟩
  · unfold VR at h
    obtain ⟨p, rfl, hp⟩ := h
    have hl : a < M.length := by rw [← r.len]; exact (List.getElem?_eq_some_iff.mp hp).1
    have hm := List.getElem?_eq_getElem hl
    have c := r.cell a _ p hm hp
    rw [rd_ref, hm] at e
    cases ho : M[a] with
    | lst ys =>
      rw [ho] at e c
      simp only [rdO, D.lst.injEq] at e
      subst e
      obtain ⟨_, vs, h1, h2⟩ := c
      exact ⟨p, vs, rfl, .of h1, h2⟩
    | ins _ _ _ => rw [ho] at e; simp [rdO] at e
    | dic _ _ => rw [ho] at e; simp [rdO] at e
    | dead => rw [ho] at e; simp [rdO] at e
theorem rd_tup {xs : List D} (r : RelM W M H) (h : VR W d v) (e : rd M d = .tup xs) : ∃ p vs, v = .ref p ∧ SqT W.K H p vs ∧ VRs W xs vs ∧ d = .tup xs := by
  rcases rd_cases (M := M) d with q | ⟨a, rfl⟩
  · rw [q] at e; subst e
    unfold VR at h
    obtain ⟨p, vs, rfl, s, t⟩ := h
    exact ⟨p, vs, rfl, .of (r.sub _ _ s), t, rfl⟩
  · rw [rd_ref] at e
    unfold rdO at e
    split at e <;> simp at e
theorem rd_ins {c : Str} {fs : List Str} {xs : List D} (r : RelM W M H) (h : VR W d v) (e : rd M d = .ins c fs xs) :
    ∃ p C dx vs, v = .ref p ∧ W.mg c = some (.ref C) ∧ H p = some (.ins C dx (fs.zip vs)) ∧ fs.length = xs.length ∧ VRs W xs vs := by
  rcases rd_cases (M := M) d with q | ⟨a, rfl⟩
  · rw [q] at e; subst e
    unfold VR at h
    obtain ⟨p, C, dx, vs, rfl, m, f, l, t⟩ := h
    exact ⟨p, C, dx, vs, rfl, m, r.sub _ _ f, l, t⟩
  · unfold VR at h
    obtain ⟨p, rfl, hp⟩ := h
    have hl : a < M.length := by rw [← r.len]; exact (List.getElem?_eq_some_iff.mp hp).1
    have hm := List.getElem?_eq_getElem hl
    have cc := r.cell a _ p hm hp
    rw [rd_ref, hm] at e
    cases ho : M[a] with
    | lst ys => rw [ho] at e; simp [rdO] at e
    | ins c' fs' ys =>
      rw [ho] at e cc
      simp only [rdO, D.ins.injEq] at e
      obtain ⟨rfl, rfl, rfl⟩ := e
      obtain ⟨_, C, dx, vs, h1, h2, h3, h4⟩ := cc
      exact ⟨p, C, dx, vs, rfl, h1, h2, h3, h4⟩
    | dic _ _ => rw [ho] at e; simp [rdO] at e
    | dead => rw [ho] at e; simp [rdO] at e
theorem rd_dic {ks : Ks} {xs : List D} (r : RelM W M H) (h : VR W d v) (e : rd M d = .dic ks xs) : ∃ p o vs, v = .ref p ∧ H p = some o ∧ DO o ks vs ∧ VRs W xs vs := by
  rcases rd_cases (M := M) d with q | ⟨a, rfl⟩
  · rw [q] at e; subst e
    unfold VR at h
    obtain ⟨p, o, vs, rfl, f, dd, t⟩ := h
    exact ⟨p, o, vs, rfl, r.sub _ _ f, dd, t⟩
  · unfold VR at h
    obtain ⟨p, rfl, hp⟩ := h
    have hl : a < M.length := by rw [← r.len]; exact (List.getElem?_eq_some_iff.mp hp).1
    have hm := List.getElem?_eq_getElem hl
    have cc := r.cell a _ p hm hp
    rw [rd_ref, hm] at e
    cases ho : M[a] with
    | lst ys => rw [ho] at e; simp [rdO] at e
    | ins _ _ _ => rw [ho] at e; simp [rdO] at e
    | dic ks' ys =>
      rw [ho] at e cc
      simp only [rdO, D.dic.injEq] at e
      obtain ⟨rfl, rfl⟩ := e
      obtain ⟨_, o, vs, h1, h2, h3⟩ := cc
      exact ⟨p, o, vs, rfl, h1, h2, h3⟩
    | dead => rw [ho] at e; simp [rdO] at e
theorem vr_int {i : Int} (h : VR W (.int i) v) : v = .int i := by unfold VR at h; exact h
theorem vr_bl {i : Bool} (h : VR W (.bl i) v) : v = .bl i := by unfold VR at h; exact h
theorem vr_str {i : Str} (h : VR W (.str i) v) : v = .str i := by unfold VR at h; exact h
theorem vr_non (h : VR W .non v) : v = .non := by unfold VR at h; exact h
theorem vr_tupF {xs : List D} (h : VR W (.tup xs) v) : ∃ p vs, v = .ref p ∧ W.F p = some (.tup vs) ∧ VRs W xs vs := by unfold VR at h; exact h
theorem vr_tup {xs : List D} (h : VR W (.tup xs) v) : ∃ p vs, v = .ref p ∧ SqT W.K W.F p vs ∧ VRs W xs vs := by
  obtain ⟨p, vs, e, s, t⟩ := vr_tupF h
  exact ⟨p, vs, e, .of s, t⟩
theorem vr_lstF {xs : List D} (h : VR W (.lst xs) v) : ∃ p vs, v = .ref p ∧ W.F p = some (.lst vs) ∧ VRs W xs vs := by unfold VR at h; exact h
theorem vr_slst {xs : List D} (h : VR W (.slst xs) v) : ∃ p vs, v = .ref p ∧ SqL W.K W.F p vs ∧ VRs W xs vs := by unfold VR at h; exact h
theorem vr_lst {xs : List D} (h : VR W (.lst xs) v) : ∃ p vs, v = .ref p ∧ SqL W.K W.F p vs ∧ VRs W xs vs := by
  obtain ⟨p, vs, e, s, t⟩ := vr_lstF h
  exact ⟨p, vs, e, .of s, t⟩
/-- a list that stands as it is -/
theorem rd_lstH {xs : List D} (r : RelM W M H) (h : VR W d v) (e : rd M d = .lst xs) : ∃ p vs, v = .ref p ∧ H p = some (.lst vs) ∧ VRs W xs vs := by
  rcases rd_cases (M := M) d with q | ⟨a, rfl⟩
  · rw [q] at e; subst e
    obtain ⟨p, vs, rfl, s, t⟩ := vr_lstF h
    exact ⟨p, vs, rfl, r.sub _ _ s, t⟩
  · unfold VR at h
    obtain ⟨p, rfl, hp⟩ := h
    have hl : a < M.length := by rw [← r.len]; exact (List.getElem?_eq_some_iff.mp hp).1
    have hm := List.getElem?_eq_getElem hl
    have c := r.cell a _ p hm hp
    rw [rd_ref, hm] at e
    cases ho : M[a] with
    | lst ys =>
      rw [ho] at e c
      simp only [rdO, D.lst.injEq] at e
      subst e
      obtain ⟨_, vs, h1, h2⟩ := c
      exact ⟨p, vs, rfl, h1, h2⟩
    | ins _ _ _ => rw [ho] at e; simp [rdO] at e
    | dic _ _ => rw [ho] at e; simp [rdO] at e
    | dead => rw [ho] at e; simp [rdO] at e
theorem vr_ref {a : Nat} (h : VR W (.ref a) v) : ∃ p, v = .ref p ∧ W.ι[a]? = some p := by unfold VR at h; exact h
theorem VR.int (i : Int) : VR W (.int i) (.int i) := by unfold VR; rfl
theorem VR.bl (i : Bool) : VR W (.bl i) (.bl i) := by unfold VR; rfl
theorem VR.str (i : Str) : VR W (.str i) (.str i) := by unfold VR; rfl
theorem VR.non : VR W .non .non := by unfold VR; rfl
/-- a new tuple -/
theorem lay_tup (r : RelM W M H) {p : Addr} {xs : List D} {vs : List V} (hp : H p = none) (h : VRs W xs vs) :
    ∃ W', Step W H W' (upd H p (.tup vs)) ∧ RelM W' M (upd H p (.tup vs)) ∧ VR W' (.tup xs) (.ref p) := by
  obtain ⟨a, b⟩ := r.lay (o := .tup vs) hp
  refine ⟨_, b, a, ?_⟩
  unfold VR
  exact ⟨p, vs, rfl, upd_same, VRs.mono b.le _ _ h⟩
/-- a new list -/
theorem lay_lst (r : RelM W M H) {p : Addr} {xs : List D} {vs : List V} (hp : H p = none) (h : VRs W xs vs) :
    Step W H W (upd H p (.lst vs)) ∧ RelM W M (upd H p (.lst vs)) ∧ Loose W (upd H p (.lst vs)) p xs := by
  obtain ⟨a, b, c, d⟩ := r.loose (o := .lst vs) hp
  exact ⟨b, a, ⟨c, d, vs, upd_same, h⟩⟩
/-- a text's or a sequence's length stays within the line -/
theorem VRs.ne_nil {xs : List D} {vs : List V} (h : VRs W xs vs) : vs = [] ↔ xs = [] := by
  have := h.length
  cases xs <;> cases vs <;> simp_all
end

def fI (f : Int → Int → Option D) : D → D → List O → Option D := fun a b _ => match a, b with
  | .int i, .int j => f i j
  | _, _ => none
def mulOk (i j : Int) : Bool := decide (i.natAbs < 2 ^ 64) || decide (j.natAbs < 2 ^ 64) || decide (i.natAbs.log2 + j.natAbs.log2 < 1000000)
theorem mulOk_ok {i j : Int} (h : mulOk i j = true) : PySem.IntMulOk i j := by
  unfold mulOk at h
  simp only [Bool.or_eq_true, decide_eq_true_eq] at h
  rcases h with (h | h) | h
  · exact (show L2.CMul i j from .inl ⟨by omega, by omega⟩).ok
  · exact (show L2.CMul i j from .inr ⟨by omega, by omega⟩).ok
  · exact (show L2.CMulW i j from h).ok
def fAdd : D → D → List O → Option D := fun a b _ => match a, b with
  | .int i, .int j => some (.int (i + j))
  | .str x, .str y => if x.length + y.length ≤ lim then some (.str (x ++ y)) else none
  | .tup xs, .tup ys => if xs.length + ys.length ≤ lim then some (.tup (xs ++ ys)) else none
  | _, _ => none
def fSub : D → D → List O → Option D := fI fun i j => some (.int (i - j))
def fMul : D → D → List O → Option D := fun a b _ => match a, b with
  | .int i, .int j => if mulOk i j then some (.int (i * j)) else none
  | .tup xs, .int k => if k = 1 then some (.tup xs) else if xs.isEmpty = false ∧ 2 ≤ k ∧ k ≤ 1000 ∧ xs.length ≤ 1000 then some (.tup (List.replicate k.toNat xs).flatten) else none
  | _, _ => none
def fDiv : D → D → List O → Option D := fI fun i j => if j ≠ 0 ∧ j.natAbs.log2 < 9000 then some (.int (i.fdiv j)) else none
def fMod : D → D → List O → Option D := fI fun i j => if j ≠ 0 then some (.int (i.fmod j)) else none
section
variable {X : Cx}
theorem p_add : Prim2 X (fun x y H Q => (L2.rI0 (fun i j => .int (i + j)) x y H Q) ∨ ((∃ i j, x = .str i ∧ y = .str j ∧ i.length + j.length ≤ PySem.sizeLine ∧ Q (.str (i ++ j)) H) ∨ L2.rCatA X.K x y H Q)) fAdd := by
  intro W M H d d2 v v2 e Q hK hm r h1 h2 he k
  unfold fAdd at he
  split at he
  · cases he
    rw [vr_int h1, vr_int h2]
    exact .inl ⟨_, _, rfl, rfl, k W _ H .refl r (VR.int _)⟩
  · split at he
    · cases he
      rw [vr_str h1, vr_str h2]
      exact .inr (.inl ⟨_, _, rfl, rfl, by rw [lim_eq]; assumption, k W _ H .refl r (VR.str _)⟩)
    · cases he
  · split at he
    · rename_i xs ys hl
      cases he
      obtain ⟨p, vs, rfl, s1, t1⟩ := vr_tup h1
      obtain ⟨q, ws, rfl, s2, t2⟩ := vr_tup h2
      rw [hK] at s1 s2
      refine .inr (.inr ⟨p, q, vs, ws, rfl, rfl, r.sub.sqT s1, r.sub.sqT s2, by rw [lim_eq, t1.length, t2.length]; exact hl, fun h => ?_, fun h h' => ?_, fun h h' p' hp' => ?_⟩)
      · refine k W _ H .refl r ?_
        have : xs = [] := t1.ne_nil.mp h
        subst this
        exact h2
      · refine k W _ H .refl r ?_
        have : ys = [] := t2.ne_nil.mp h'
        subst this
        rw [List.append_nil]
        exact h1
      · obtain ⟨W', a, b, c⟩ := lay_tup r hp' (t1.append t2)
        exact k W' _ _ a b c
    · cases he
  · cases he
theorem o_add : L2.OpR X (PySem.binaryOp .Add) (fun x y H Q => (L2.rI0 (fun i j => .int (i + j)) x y H Q) ∨ ((∃ i j, x = .str i ∧ y = .str j ∧ i.length + j.length ≤ PySem.sizeLine ∧ Q (.str (i ++ j)) H) ∨ L2.rCatA X.K x y H Q)) :=
  L2.OpR.or L2.op_add (L2.OpR.or L2.op_add_str L2.op_catA)
theorem p_sub : Prim2 X (L2.rI0 fun i j => .int (i - j)) fSub := by
  intro W M H d d2 v v2 e Q hK hm r h1 h2 he k
  unfold fSub fI at he
  split at he
  · cases he
    rw [vr_int h1, vr_int h2]
    exact ⟨_, _, rfl, rfl, k W _ H .refl r (VR.int _)⟩
  · cases he
abbrev rMul (X : Cx) : L2.R2 := fun x y H Q => (L2.rI PySem.IntMulOk (fun i j => .int (i * j)) x y H Q ∨ L2.rRepT1 X.K x y H Q) ∨ L2.rRepT X.K x y H Q
theorem o_mul : L2.OpR X (PySem.binaryOp .Mult) (rMul X) :=
  L2.OpR.or (L2.OpR.or (L2.opI fun _ _ _ _ _ _ _ hc q => PyProof.Rows.mul_int q hc) L2.op_repT1) L2.op_repT
theorem p_mul : Prim2 X (rMul X) fMul := by
  intro W M H d d2 v v2 e Q hK hm r h1 h2 he k
  unfold fMul at he
  split at he
  · split at he
    · rename_i hk
      cases he
      rw [vr_int h1, vr_int h2]
      exact .inl (.inl ⟨_, _, rfl, rfl, mulOk_ok hk, k W _ H .refl r (VR.int _)⟩)
    · cases he
  · split at he
    · rename_i xs kk hk
      subst hk
      cases he
      have h1' := h1
      obtain ⟨p, vs, rfl, s1, t1⟩ := vr_tup h1
      rw [vr_int h2]
      rw [hK] at s1
      exact .inl (.inr ⟨p, vs, rfl, rfl, r.sub.sqT s1, k W _ H .refl r h1'⟩)
    · split at he
      · rename_i xs kk _ hk
        cases he
        obtain ⟨p, vs, rfl, s1, t1⟩ := vr_tup h1
        rw [vr_int h2]
        rw [hK] at s1
        refine .inr ⟨p, kk, vs, rfl, rfl, r.sub.sqT s1, fun z => ?_, hk.2.1, hk.2.2.1, by rw [t1.length]; exact hk.2.2.2, fun p' hp' => ?_⟩
        · have := t1.ne_nil.mp z
          subst this
          simp at hk
        · obtain ⟨W', a, b, c⟩ := lay_tup r hp' (t1.rep kk.toNat)
          exact k W' _ _ a b c
      · cases he
  · cases he
theorem o_div : L2.OpR X (PySem.binaryOp .FloorDiv) (L2.rI (fun _ j => j ≠ 0 ∧ j.natAbs.log2 < 9000) fun i j => .int (i.fdiv j)) :=
  L2.opI fun _ _ _ _ _ _ _ hc q => PyProof.Rows.floordiv_int hc.1 q (.inl (PyProof.noPylong_of_log2 hc.2))
theorem p_div : Prim2 X (L2.rI (fun _ j => j ≠ 0 ∧ j.natAbs.log2 < 9000) fun i j => .int (i.fdiv j)) fDiv := by
  intro W M H d d2 v v2 e Q hK hm r h1 h2 he k
  unfold fDiv fI at he
  split at he
  · dsimp only at he
    split at he
    · rename_i hk
      cases he
      rw [vr_int h1, vr_int h2]
      exact ⟨_, _, rfl, rfl, hk, k W _ H .refl r (VR.int _)⟩
    · cases he
  · cases he
theorem p_mod : Prim2 X (L2.rI (fun _ j => j ≠ 0) fun i j => .int (i.fmod j)) fMod := by
  intro W M H d d2 v v2 e Q hK hm r h1 h2 he k
  unfold fMod fI at he
  split at he
  · dsimp only at he
    split at he
    · rename_i hk
      cases he
      rw [vr_int h1, vr_int h2]
      exact ⟨_, _, rfl, rfl, hk, k W _ H .refl r (VR.int _)⟩
    · cases he
  · cases he
end
section
variable {A : Anc} {X : Cx} (F : Fit A X) {a b : Expr} {ma mb : TM} {pos : Pos}
include F
theorem me_add (ha : ME A X a ma) (hb : ME A X b mb) : ME A X (.BinOp a .Add b pos) (m2 fAdd ma mb) := me2 F (L2.pe_op o_add ha hb) p_add
theorem me_sub (ha : ME A X a ma) (hb : ME A X b mb) : ME A X (.BinOp a .Sub b pos) (m2 fSub ma mb) := me2 F (L2.pe_op L2.op_sub ha hb) p_sub
theorem me_mul (ha : ME A X a ma) (hb : ME A X b mb) : ME A X (.BinOp a .Mult b pos) (m2 fMul ma mb) := me2 F (L2.pe_op o_mul ha hb) p_mul
theorem me_div (ha : ME A X a ma) (hb : ME A X b mb) : ME A X (.BinOp a .FloorDiv b pos) (m2 fDiv ma mb) := me2 F (L2.pe_op o_div ha hb) p_div
theorem me_mod (ha : ME A X a ma) (hb : ME A X b mb) : ME A X (.BinOp a .Mod b pos) (m2 fMod ma mb) := me2 F (L2.pe_op L2.op_modN ha hb) p_mod
end

mutual
/-- as data of the library -/
def toPy : D → Option PyData
  | .non => some .none
  | .bl b => some (.bool b)
  | .int i => some (.int i)
  | .str x => some (.str x)
  | .tup xs => match toPys xs with
    | some ys => some (.tuple ys)
    | none => none
  | .lst xs => match toPys xs with
    | some ys => some (.list ys)
    | none => none
  | _ => none
def toPys : List D → Option (List PyData)
  | [] => some []
  | d :: ds => match toPy d, toPys ds with
    | some x, some xs => some (x :: xs)
    | _, _ => none
end
section
variable {W : Wd} {H : Hp}
mutual
theorem toPy_dp (hF : Le W.F H) : ∀ (d : D) (v : V) (x : PyData), VR W d v → toPy d = some x → L2.Dp W.K H v x
  | .non, v, x, h, e => by rw [vr_non h]; simp [toPy] at e; subst e; exact .non
  | .bl b, v, x, h, e => by rw [vr_bl h]; simp [toPy] at e; subst e; exact .bl _
  | .int b, v, x, h, e => by rw [vr_int h]; simp [toPy] at e; subst e; exact .int _
  | .str b, v, x, h, e => by rw [vr_str h]; simp [toPy] at e; subst e; exact .str _
  | .tup xs, v, x, h, e => by
    obtain ⟨p, vs, rfl, s, t⟩ := vr_tup h
    unfold toPy at e
    split at e
    · rename_i ys hy
      cases e
      exact .tup (hF.sqT s) (toPys_dp hF xs vs ys t hy)
    · cases e
  | .lst xs, v, x, h, e => by
    obtain ⟨p, vs, rfl, s, t⟩ := vr_lst h
    unfold toPy at e
    split at e
    · rename_i ys hy
      cases e
      exact .lst (hF.sqL s) (toPys_dp hF xs vs ys t hy)
    · cases e
  | .ins _ _ _, _, _, _, e => by simp [toPy] at e
  | .dic _ _, _, _, _, e => by simp [toPy] at e
  | .slst _, _, _, _, e => by simp [toPy] at e
  | .ref _, _, _, _, e => by simp [toPy] at e
  | .gl _, _, _, _, e => by simp [toPy] at e
theorem toPys_dp (hF : Le W.F H) : ∀ (ds : List D) (vs : List V) (xs : List PyData), VRs W ds vs → toPys ds = some xs → L2.DpAll W.K H vs xs
  | [], vs, xs, h, e => by rw [h.inv0]; simp [toPys] at e; subst e; exact .nil
  | d :: ds, vs, xs, h, e => by
    obtain ⟨v, r, rfl, a, b⟩ := h.inv
    unfold toPys at e
    split at e
    · rename_i y ys h1 h2
      cases e
      exact .cons (toPy_dp hF d v y a h1) (toPys_dp hF ds r ys b h2)
    · cases e
end
theorem rd_dp {M : List O} {d : D} {v : V} {x : PyData} (r : RelM W M H) (h : VR W d v) (e : toPy (rd M d) = some x) : L2.Dp W.K H v x := by
  rcases rd_cases (M := M) d with q | ⟨a, rfl⟩
  · rw [q] at e; exact toPy_dp r.sub d v x h e
  · cases hr : rd M (.ref a) with
    | lst xs =>
      rw [hr] at e
      obtain ⟨p, vs, rfl, s, t⟩ := rd_lst r h hr
      unfold toPy at e
      split at e
      · rename_i ys hy
        cases e
        exact .lst s (toPys_dp r.sub xs vs ys t hy)
      · cases e
    | tup xs => rw [hr] at e; obtain ⟨_, _, _, _, _, z⟩ := rd_tup r h hr; cases z
    | non => rw [rd_ref] at hr; unfold rdO at hr; split at hr <;> simp at hr
    | bl b => rw [rd_ref] at hr; unfold rdO at hr; split at hr <;> simp at hr
    | int b => rw [rd_ref] at hr; unfold rdO at hr; split at hr <;> simp at hr
    | str b => rw [rd_ref] at hr; unfold rdO at hr; split at hr <;> simp at hr
    | ins c fs xs => rw [hr] at e; simp [toPy] at e
    | dic c fs => rw [hr] at e; simp [toPy] at e
    | slst c => rw [hr] at e; simp [toPy] at e
    | ref b => rw [hr] at e; simp [toPy] at e
    | gl b => rw [hr] at e; simp [toPy] at e
end
/-- == of data -/
def eqD (a b : D) : Option Bool := match toPy a, toPy b with
  | some x, some y => if PySem.SeqAt.shaped x && PySem.SeqAt.shaped y then some (PyData.eqv x y) else none
  | _, _ => none
def fEq : D → D → List O → Option D := fun a b M => (eqD (rd M a) (rd M b)).map .bl
def fNe : D → D → List O → Option D := fun a b M => (eqD (rd M a) (rd M b)).map fun r => .bl (!r)
theorem eqD_some {a b : D} {r : Bool} (h : eqD a b = some r) : ∃ x y, toPy a = some x ∧ toPy b = some y ∧ PySem.SeqAt.shaped x = true ∧ PySem.SeqAt.shaped y = true ∧ r = PyData.eqv x y := by
  unfold eqD at h
  split at h
  · rename_i x y h1 h2
    split at h
    · rename_i hs
      cases h
      rw [Bool.and_eq_true] at hs
      exact ⟨x, y, h1, h2, hs.1, hs.2, rfl⟩
    · cases h
  · cases h
section
variable {X : Cx}
theorem p_eq : Prim2 X (L2.rEqD X.K) fEq := by
  intro W M H d d2 v v2 e Q hK hm r h1 h2 he k
  unfold fEq at he
  obtain ⟨b, hb, rfl⟩ := Option.map_eq_some_iff.mp he
  obtain ⟨x, y, e1, e2, s1, s2, rfl⟩ := eqD_some hb
  exact ⟨x, y, hK ▸ rd_dp r h1 e1, hK ▸ rd_dp r h2 e2, s1, s2, k W _ H .refl r (VR.bl _)⟩
theorem p_ne : Prim2 X (L2.rNeD X.K) fNe := by
  intro W M H d d2 v v2 e Q hK hm r h1 h2 he k
  unfold fNe at he
  obtain ⟨b, hb, rfl⟩ := Option.map_eq_some_iff.mp he
  obtain ⟨x, y, e1, e2, s1, s2, rfl⟩ := eqD_some hb
  exact ⟨x, y, hK ▸ rd_dp r h1 e1, hK ▸ rd_dp r h2 e2, s1, s2, k W _ H .refl r (VR.bl _)⟩
end
def fCmp (p : Int → Int → Bool) (q : List Nat → List Nat → Bool) : D → D → List O → Option D := fun a b _ => match a, b with
  | .int i, .int j => some (.bl (p i j))
  | .str x, .str y => some (.bl (q x.cps.toList y.cps.toList))
  | _, _ => none
def fLt := fCmp (fun i j => decide (i < j)) fun x y => decide (x < y)
def fLe := fCmp (fun i j => decide (i ≤ j)) fun x y => !decide (y < x)
def fGt := fCmp (fun i j => decide (j < i)) fun x y => decide (y < x)
def fGe := fCmp (fun i j => decide (j ≤ i)) fun x y => !decide (x < y)
def rCmp (p : Int → Int → Bool) (q : List Nat → List Nat → Bool) : L2.R2 := fun x y H Q => L2.rI0 (fun i j => .bl (p i j)) x y H Q ∨ ∃ i j, x = .str i ∧ y = .str j ∧ Q (.bl (q i.cps.toList j.cps.toList)) H
section
variable {X : Cx}
theorem p_cmp (p : Int → Int → Bool) (q : List Nat → List Nat → Bool) : Prim2 X (rCmp p q) (fCmp p q) := by
  intro W M H d d2 v v2 e Q hK hm r h1 h2 he k
  unfold fCmp at he
  split at he
  · cases he
    rw [vr_int h1, vr_int h2]
    exact .inl ⟨_, _, rfl, rfl, k W _ H .refl r (VR.bl _)⟩
  · cases he
    rw [vr_str h1, vr_str h2]
    exact .inr ⟨_, _, rfl, rfl, k W _ H .refl r (VR.bl _)⟩
  · cases he
theorem o_lt : L2.OpR X (PySem.compareOp .Lt) (rCmp (fun i j => decide (i < j)) fun x y => decide (x < y)) := L2.OpR.or L2.op_lt L2.op_lt_str
theorem o_le : L2.OpR X (PySem.compareOp .LtE) (rCmp (fun i j => decide (i ≤ j)) fun x y => !decide (y < x)) := L2.OpR.or L2.op_le L2.op_le_str
theorem o_gt : L2.OpR X (PySem.compareOp .Gt) (rCmp (fun i j => decide (j < i)) fun x y => decide (y < x)) := L2.OpR.or L2.op_gt L2.op_gt_str
theorem o_ge : L2.OpR X (PySem.compareOp .GtE) (rCmp (fun i j => decide (j ≤ i)) fun x y => !decide (x < y)) := L2.OpR.or L2.op_ge L2.op_ge_str
/-- a comparison's rule by values and what it says of data -/
structure Cmp (X : Cx) (op : PySem.CmpOp) (f : D → D → List O → Option D) : Prop where
  ex : ∃ r, L2.OpR X (PySem.compareOp op) r ∧ Prim2 X r f
theorem c_lt : Cmp X .Lt fLt := ⟨_, o_lt, p_cmp _ _⟩
theorem c_le : Cmp X .LtE fLe := ⟨_, o_le, p_cmp _ _⟩
theorem c_gt : Cmp X .Gt fGt := ⟨_, o_gt, p_cmp _ _⟩
theorem c_ge : Cmp X .GtE fGe := ⟨_, o_ge, p_cmp _ _⟩
theorem c_eq (hu : X.A.units + 64 < PySem.cLine) : Cmp X .Eq fEq := ⟨_, L2.op_eqD hu, p_eq⟩
theorem c_ne (hu : X.A.units + 64 < PySem.cLine) : Cmp X .NotEq fNe := ⟨_, L2.op_neD hu, p_ne⟩
end

def isN : D → Bool
  | .non => true
  | _ => false
theorem VR.isN {W : Wd} {d : D} {v : V} (h : VR W d v) : decide (v = .non) = isN d := by
  cases d <;> unfold VR at h <;> first
    | (obtain ⟨p, vs, rfl, _⟩ := h; rfl)
    | (obtain ⟨p, rfl, _⟩ := h; rfl)
    | (obtain ⟨p, _, _, _, rfl, _⟩ := h; rfl)
    | (obtain ⟨p, _, _, rfl, _⟩ := h; rfl)
    | (subst h; rfl)
section
variable {A : Anc} {X : Cx} (F : Fit A X) {a b c : Expr} {ma mb mc : TM} {pos : Pos} {op op' : PySem.CmpOp} {f g : D → D → List O → Option D}
include F
theorem me_cmp (hc : Cmp X op f) (ha : ME A X a ma) (hb : ME A X b mb) (hm : PySem.behindInMarks op b = false) : ME A X (.Compare a [op] [b] pos) (m2 f ma mb) := by
  obtain ⟨r, h1, h2⟩ := hc.ex
  exact me2 F (L2.pe_cmpR h1 ha hb hm) h2
theorem me_isN {j pos'} (ha : ME A X a ma) : ME A X (.Compare a [.Is] [.Constant .none j pos'] pos) (m1 (fun d _ => some (.bl (isN d))) ma) := by
  refine me1 F (r := fun v H Q => Q (.bl (decide (v = .non))) H) (L2.pe_cmp (L2.pc_isN ha)) ?_
  intro W M H d v e Q hK hm r h1 he k
  cases he
  exact k W _ H .refl r (by rw [h1.isN]; exact VR.bl _)
theorem me_notN {j pos'} (ha : ME A X a ma) : ME A X (.Compare a [.IsNot] [.Constant .none j pos'] pos) (m1 (fun d _ => some (.bl (!isN d))) ma) := by
  refine me1 F (r := fun v H Q => Q (.bl (!decide (v = .non))) H) (L2.pe_cmp (L2.pc_notN ha)) ?_
  intro W M H d v e Q hK hm r h1 he k
  cases he
  exact k W _ H .refl r (by rw [h1.isN]; exact VR.bl _)
theorem mt_cmp (hc : Cmp X op f) (ha : ME A X a ma) (hb : ME A X b mb) (hm : PySem.behindInMarks op b = false) : MT A X (.Compare a [op] [b] pos) (mT (m2 f ma mb)) := by
  obtain ⟨r, h1, h2⟩ := hc.ex
  exact mt_of (L2.pt_cmpR h1 ha hb hm) (imp2 F h2)
theorem mt_isN {j pos'} (ha : ME A X a ma) : MT A X (.Compare a [.Is] [.Constant .none j pos'] pos) (mT (m1 (fun d _ => some (.bl (isN d))) ma)) := by
  refine mt_of (L2.pt_cmp (L2.pc_isN ha)) (imp1 F (r := fun v H Q => Q (.bl (decide (v = .non))) H) ?_)
  intro W M H d v e Q hK hm r h1 he k
  cases he
  exact k W _ H .refl r (by rw [h1.isN]; exact VR.bl _)
theorem mt_notN {j pos'} (ha : ME A X a ma) : MT A X (.Compare a [.IsNot] [.Constant .none j pos'] pos) (mT (m1 (fun d _ => some (.bl (!isN d))) ma)) := by
  refine mt_of (L2.pt_cmp (L2.pc_notN ha)) (imp1 F (r := fun v H Q => Q (.bl (!decide (v = .non))) H) ?_)
  intro W M H d v e Q hK hm r h1 he k
  cases he
  exact k W _ H .refl r (by rw [h1.isN]; exact VR.bl _)
end
/-- a op b op' c -/
def mChain (f g : D → D → List O → Option D) (a b c : TM) : TM := fun env M P E => a env M (fun x M1 => b env M1 (fun y M2 => ∃ t, f x y M2 = some (.bl t) ∧
  if t = true then c env M2 (fun z M3 => ∃ r, g y z M3 = some r ∧ P r M3) E else P (.bl false) M2) E) E
section
variable {A : Anc} {X : Cx} (F : Fit A X) {a b c : Expr} {ma mb mc : TM} {pos : Pos} {op op' : PySem.CmpOp} {f g : D → D → List O → Option D} {r r' : L2.R2}
include F
theorem imp_chain (p : Prim2 X r f) (p' : Prim2 X r' g) : ∀ σ H Q, lf A (mChain f g ma mb mc) σ H Q → L2.tChain r r' (lf A ma) (lf A mb) (lf A mc) σ H Q := by
  intro σ H Q ⟨W, env, M, P, s, h, k⟩
  refine ⟨W, env, M, _, s, h, fun W1 d M1 v H1 s1 rm1 r1 h1 => ?_⟩
  have S1 := s.next s1 rm1
  refine ⟨W1, env, M1, _, S1, h1, fun W2 d2 M2 v2 H2 s2 rm2 r2 ⟨t, he, hp⟩ => ?_⟩
  have S2 := S1.next s2 rm2
  refine p W2 M2 H2 d d2 v v2 _ _ (S2.K F) (S2.mg F) rm2 (VR.mono s2.le _ _ r1) r2 he fun W3 u H3 s3 rm3 ru => ⟨t, vr_bl ru, ?_⟩
  have S3 := S2.next s3 rm3
  cases t with
  | false =>
    rw [if_neg Bool.false_ne_true] at hp ⊢
    exact k W3 _ M2 _ H3 ((s1.trans s2).trans s3) rm3 (VR.bl _) hp
  | true =>
    rw [if_pos rfl] at hp ⊢
    refine ⟨W3, env, M2, _, S3, hp, fun W4 d4 M4 v4 H4 s4 rm4 r4 ⟨e, he4, hp4⟩ => ?_⟩
    have S4 := S3.next s4 rm4
    exact p' W4 M4 H4 d2 d4 v2 v4 e Q (S4.K F) (S4.mg F) rm4 (VR.mono (s3.trans s4).le _ _ r2) r4 he4 fun W' u H' st rm ru => k W' e M4 u H' (((s1.trans s2).trans (s3.trans s4)).trans st) rm ru hp4
theorem me_chain (hc : Cmp X op f) (hc' : Cmp X op' g) (ha : ME A X a ma) (hb : ME A X b mb) (hd : ME A X c mc) (hm : PySem.lastMarks [op, op'] [b, c] = false := by with_unfolding_all rfl) :
    ME A X (.Compare a [op, op'] [b, c] pos) (mChain f g ma mb mc) := by
  obtain ⟨r, h1, h2⟩ := hc.ex
  obtain ⟨r', h1', h2'⟩ := hc'.ex
  exact pe_imp (L2.pe_chain h1 h1' ha hb hd hm) (imp_chain F h2 h2')
theorem mt_chain (hc : Cmp X op f) (hc' : Cmp X op' g) (ha : ME A X a ma) (hb : ME A X b mb) (hd : ME A X c mc) (hm : PySem.lastMarks [op, op'] [b, c] = false := by with_unfolding_all rfl) :
    MT A X (.Compare a [op, op'] [b, c] pos) (mT (mChain f g ma mb mc)) := by
  obtain ⟨r, h1, h2⟩ := hc.ex
  obtain ⟨r', h1', h2'⟩ := hc'.ex
  exact mt_of (L2.pt_chain h1 h1' ha hb hd hm) (imp_chain F h2 h2')
end

def bAnd (a b : TB) : TB := fun env M P E => a env M (fun c M1 => if c = true then b env M1 P E else P false M1) E
def bOr (a b : TB) : TB := fun env M P E => a env M (fun c M1 => if c = true then P true M1 else b env M1 P E) E
def bNot (a : TB) : TB := fun env M P E => a env M (fun c M1 => P (!c) M1) E
def mAnd (a b : TM) : TM := fun env M P E => a env M (fun d M1 => ∃ c, d = .bl c ∧ if c = true then b env M1 P E else P (.bl false) M1) E
def mOr (a b : TM) : TM := fun env M P E => a env M (fun d M1 => ∃ c, d = .bl c ∧ if c = true then P (.bl true) M1 else b env M1 P E) E
def mNot (a : TM) : TM := fun env M P E => a env M (fun d M1 => ∃ c, d = .bl c ∧ P (.bl (!c)) M1) E
def mIf (t : TB) (a b : TM) : TM := fun env M P E => t env M (fun c M1 => if c = true then a env M1 P E else b env M1 P E) E
abbrev MW (A : Anc) (X : Cx) (x : Expr) (m : TB) : Prop := L2.PW X x (lft A m)
section
variable {A : Anc} {X : Cx} {a b : Expr} {rest : List Expr} {ta tb : TB} {ma mb : TM} {pos : Pos} {op : PySem.BoolOp}
theorem lft_next {P : QB} {Q : Bool → Hp → Prop} {W W1 : Wd} {env : Env} {M M1 : List O} {σ : St} {H H1 : Hp} {tb : TB} (s : Sit A W env M σ H) (s1 : Step W H W1 H1) (rm1 : RelM W1 M1 H1) (h : tb env M1 P A.E)
    (k : ∀ W' b M' H', Step W H W' H' → RelM W' M' H' → P b M' → Q b H') : lft A tb σ H1 Q :=
  ⟨W1, env, M1, P, s.next s1 rm1, h, fun W' b M' H' st rm hp => k W' b M' H' (s1.trans st) rm hp⟩
theorem lf_next {P : QE} {Q : VK} {W W1 : Wd} {env : Env} {M M1 : List O} {σ : St} {H H1 : Hp} {tb : TM} (s : Sit A W env M σ H) (s1 : Step W H W1 H1) (rm1 : RelM W1 M1 H1) (h : tb env M1 P A.E)
    (k : ∀ W' d M' v H', Step W H W' H' → RelM W' M' H' → VR W' d v → P d M' → Q v H') : lf A tb σ H1 Q :=
  ⟨W1, env, M1, P, s.next s1 rm1, h, fun W' b M' v H' st rm r hp => k W' b M' v H' (s1.trans st) rm r hp⟩
theorem mw_and1 (ha : MT A X a ta) : MW A X (.BoolOp .And [a] pos) ta := L2.pw_and1 ha
theorem mw_or1 (ha : MT A X a ta) : MW A X (.BoolOp .Or [a] pos) ta := L2.pw_or1 ha
theorem mw_and (ha : MT A X a ta) (hb : MW A X (.BoolOp .And (b :: rest) pos) tb) : MW A X (.BoolOp .And (a :: b :: rest) pos) (bAnd ta tb) := by
  refine pw_imp (L2.pw_and ha hb) fun σ H Q ⟨W, env, M, P, s, h, k⟩ => ⟨W, env, M, _, s, h, fun W1 c M1 H1 s1 rm1 h1 => ?_⟩
  cases c with
  | true => rw [if_pos rfl] at h1 ⊢; exact lft_next s s1 rm1 h1 k
  | false => rw [if_neg Bool.false_ne_true] at h1 ⊢; exact k W1 _ M1 H1 s1 rm1 h1
theorem mw_or (ha : MT A X a ta) (hb : MW A X (.BoolOp .Or (b :: rest) pos) tb) : MW A X (.BoolOp .Or (a :: b :: rest) pos) (bOr ta tb) := by
  refine pw_imp (L2.pw_or ha hb) fun σ H Q ⟨W, env, M, P, s, h, k⟩ => ⟨W, env, M, _, s, h, fun W1 c M1 H1 s1 rm1 h1 => ?_⟩
  cases c with
  | true => rw [if_pos rfl] at h1 ⊢; exact k W1 _ M1 H1 s1 rm1 h1
  | false => rw [if_neg Bool.false_ne_true] at h1 ⊢; exact lft_next s s1 rm1 h1 k
theorem mt_w (h : MW A X a ta) : MT A X a ta := h.pt
theorem mt_not (ha : MT A X a ta) : MT A X (.UnaryOp .Not a pos) (bNot ta) := by
  refine pt_imp (L2.pt_not ha) fun σ H Q ⟨W, env, M, P, s, h, k⟩ => ⟨W, env, M, _, s, h, fun W1 c M1 H1 s1 rm1 h1 => k W1 _ M1 H1 s1 rm1 h1⟩
theorem me_one (ha : ME A X a ma) : ME A X (.BoolOp op [a] pos) ma := L2.pe_one ha
theorem me_and (ha : ME A X a ma) (hb : ME A X (.BoolOp .And (b :: rest) pos) mb) : ME A X (.BoolOp .And (a :: b :: rest) pos) (mAnd ma mb) := by
  refine pe_imp (L2.pe_and ha hb) fun σ H Q ⟨W, env, M, P, s, h, k⟩ => ⟨W, env, M, _, s, h, fun W1 d M1 v H1 s1 rm1 r1 ⟨c, e, h1⟩ => ?_⟩
  subst e
  refine ⟨c, vr_bl r1, ?_⟩
  cases c with
  | true => rw [if_pos rfl] at h1 ⊢; exact lf_next s s1 rm1 h1 k
  | false => rw [if_neg Bool.false_ne_true] at h1 ⊢; exact k W1 _ M1 _ H1 s1 rm1 (VR.bl _) h1
theorem me_or (ha : ME A X a ma) (hb : ME A X (.BoolOp .Or (b :: rest) pos) mb) : ME A X (.BoolOp .Or (a :: b :: rest) pos) (mOr ma mb) := by
  refine pe_imp (L2.pe_or ha hb) fun σ H Q ⟨W, env, M, P, s, h, k⟩ => ⟨W, env, M, _, s, h, fun W1 d M1 v H1 s1 rm1 r1 ⟨c, e, h1⟩ => ?_⟩
  subst e
  refine ⟨c, vr_bl r1, ?_⟩
  cases c with
  | true => rw [if_pos rfl] at h1 ⊢; exact k W1 _ M1 _ H1 s1 rm1 (VR.bl _) h1
  | false => rw [if_neg Bool.false_ne_true] at h1 ⊢; exact lf_next s s1 rm1 h1 k
theorem me_not (ha : ME A X a ma) : ME A X (.UnaryOp .Not a pos) (mNot ma) := by
  refine pe_imp (L2.pe_not ha) fun σ H Q ⟨W, env, M, P, s, h, k⟩ => ⟨W, env, M, _, s, h, fun W1 d M1 v H1 s1 rm1 r1 ⟨c, e, h1⟩ => ?_⟩
  subst e
  exact ⟨c, vr_bl r1, k W1 _ M1 _ H1 s1 rm1 (VR.bl _) h1⟩
theorem me_if {c : Expr} (hc : MT A X c ta) (ha : ME A X a ma) (hb : ME A X b mb) : ME A X (.IfExp c a b pos) (mIf ta ma mb) := by
  refine pe_imp (L2.pe_ifExp hc ha hb) fun σ H Q ⟨W, env, M, P, s, h, k⟩ => ⟨W, env, M, _, s, h, fun W1 c M1 H1 s1 rm1 h1 => ?_⟩
  cases c with
  | true => rw [if_pos rfl] at h1 ⊢; exact lf_next s s1 rm1 h1 k
  | false => rw [if_neg Bool.false_ne_true] at h1 ⊢; exact lf_next s s1 rm1 h1 k
end
end Mi
end
section
set_option maxHeartbeats 4000000
namespace Mi
open PySem (Str Addr Value Expr Stmt Pos PyData)
open L2 (V Hp HO SqL SqT upd upd_same upd_ne Cx TE TT TA TS PE PT PA PS PSs VK St Ends)

def aNil : TL := fun _ M P _ => P [] M
def aCons (a : TM) (r : TL) : TL := fun env M P E => a env M (fun d M1 => r env M1 (fun ds M2 => P (d :: ds) M2) E) E
def mTup (a : TL) : TM := fun env M P E => a env M (fun ds M1 => ds.length ≤ lim ∧ P (.tup ds) M1) E
def lDisp (a : TL) : TL := fun env M P E => a env M (fun ds M1 => ds.length ≤ lim ∧ P ds M1) E
/-- a list just made: frozen; a cell -/
def mFrz (m : TL) : TM := fun env M P E => m env M (fun xs M1 => P (.lst xs) M1) E
def mCel (m : TL) : TM := fun env M P E => m env M (fun xs M1 => P (.ref M1.length) (M1 ++ [.lst xs])) E
section
variable {A : Anc} {X : Cx} {e : Expr} {es : List Expr} {ma : TM} {mr : TL} {pos : Pos}
theorem ma_nil : MA A X [] aNil := pa_imp L2.pa_nil fun σ H Q ⟨W, env, M, P, s, h, k⟩ => k W [] M [] H .refl s.rm .nil h
theorem ma_cons (ha : ME A X e ma) (hr : MA A X es mr) (hs : PySem.starEach (e :: es) X.env = (false, PySem.eval e X.env) :: PySem.starEach es X.env := by rfl) : MA A X (e :: es) (aCons ma mr) := by
  refine pa_imp (L2.pa_cons ha hr hs) fun σ H Q ⟨W, env, M, P, s, h, k⟩ => ⟨W, env, M, _, s, h, fun W1 d M1 v H1 s1 rm1 r1 h1 => ?_⟩
  have S1 := s.next s1 rm1
  exact ⟨W1, env, M1, _, S1, h1, fun W2 ds M2 vs H2 s2 rm2 r2 h2 => k W2 _ M2 _ H2 (s1.trans s2) rm2 (.cons (VR.mono s2.le _ _ r1) r2) h2⟩
theorem me_tup {x1} (ha : MA A X es mr) : ME A X (.Tuple es x1 pos) (mTup mr) := by
  refine pe_imp (L2.pe_tup ha) fun σ H Q ⟨W, env, M, P, s, h, k⟩ => ⟨W, env, M, _, s, h, fun W1 ds M1 vs H1 s1 rm1 r1 ⟨hl, hp⟩ => ⟨by rw [lim_eq, r1.length]; exact hl, fun p hn => ?_⟩⟩
  obtain ⟨W', a, b, c⟩ := lay_tup rm1 hn r1
  exact k W' _ M1 _ _ (s1.trans a) b c hp
theorem ml_disp (ha : MA A X es mr) : ML A X (.List es pos) (lDisp mr) := by
  refine pe_imp (L2.pe_lst ha) fun σ H Q ⟨W, env, M, P, s, h, k⟩ => ⟨W, env, M, _, s, h, fun W1 ds M1 vs H1 s1 rm1 r1 ⟨hl, hp⟩ => ⟨by rw [lim_eq, r1.length]; exact hl, fun p hn => ?_⟩⟩
  obtain ⟨a, b, c⟩ := lay_lst rm1 hn r1
  exact k W1 _ M1 p _ (s1.trans a) b c (back_none s1 rm1 hn) hp
theorem me_frz {x : Expr} {m : TL} (h : ML A X x m) : ME A X x (mFrz m) := by
  refine pe_imp h fun σ H Q ⟨W, env, M, P, s, h, k⟩ => ⟨W, env, M, _, s, h, fun W1 xs M1 p H1 s1 rm1 ⟨hF, hι, vs, hp, hv⟩ hn hP => ?_⟩
  obtain ⟨a, b⟩ := rm1.freeze hp hF hι
  refine k _ (.lst xs) M1 (.ref p) H1 (s1.freeze hF hn) a ?_ hP
  unfold VR
  exact ⟨p, vs, rfl, upd_same, VRs.mono b _ _ hv⟩
theorem me_cel {x : Expr} {m : TL} (h : ML A X x m) : ME A X x (mCel m) := by
  refine pe_imp h fun σ H Q ⟨W, env, M, P, s, h, k⟩ => ⟨W, env, M, _, s, h, fun W1 xs M1 p H1 s1 rm1 ⟨hF, hι, vs, hp, hv⟩ hn hP => ?_⟩
  have le : WLe W1 { W1 with ι := W1.ι ++ [p] } := ⟨rfl, rfl, Le.refl, fun i q h => by
    show (W1.ι ++ [p])[i]? = some q
    rw [List.getElem?_append_left (List.getElem?_eq_some_iff.mp h).1]; exact h⟩
  obtain ⟨a, b⟩ := rm1.adopt (c := .lst xs) hι ⟨hF, vs, hp, VRs.mono le _ _ hv⟩
  refine k _ (.ref M1.length) _ (.ref p) H1 (s1.adopt hn) a ?_ hP
  unfold VR
  refine ⟨p, rfl, ?_⟩
  show (W1.ι ++ [p])[M1.length]? = some p
  rw [← rm1.len]
  simp
end

def fIdx : D → D → List O → Option D := fun a i M => match rd M a, i with
  | .lst xs, .int k => L2.atI xs k
  | .tup xs, .int k => L2.atI xs k
  | .str z, .int k => if z.length ≤ lim then (L2.atI z.cps.toList k).map fun c => .str ⟨#[c]⟩ else none
  | _, _ => none
theorem VRs.atI {W : Wd} {ds : List D} {vs : List V} {k : Int} {d : D} (h : VRs W ds vs) (e : L2.atI ds k = some d) : ∃ v, L2.atI vs k = some v ∧ VR W d v := by
  unfold L2.atI at e ⊢
  rw [h.length]
  cases hq : L2.ixN ds.length k with
  | none => rw [hq] at e; cases e
  | some j =>
    rw [hq] at e
    exact h.get (show ds[j]? = some d from e)
def oD : Option D → Option Int
  | some (.int i) => some i
  | _ => none
def cutD (xs : List D) (lo hi : Option Int) : List D := (xs.drop (_root_.HT.sIx xs.length 0 lo)).take (_root_.HT.sIx xs.length xs.length hi - _root_.HT.sIx xs.length 0 lo)
theorem VRs.cut {W : Wd} {ds : List D} {vs : List V} (h : VRs W ds vs) (lo hi : Option Int) : VRs W (cutD ds lo hi) (L2.cutV vs lo hi) := by
  unfold cutD L2.cutV
  rw [h.length]
  exact (h.drop _).take _
def fLen : D → List O → Option D := fun a M => match rd M a with
  | .lst xs => some (.int xs.length)
  | .tup xs => some (.int xs.length)
  | .str z => if z.length ≤ lim then some (.int z.length) else none
  | _ => none
theorem rd_str {W : Wd} {M : List O} {d : D} {v : V} {x : Str} (h : VR W d v) (e : rd M d = .str x) : v = .str x := by
  rcases rd_cases (M := M) d with q | ⟨a, rfl⟩
  · rw [q] at e; subst e; exact vr_str h
  · rw [rd_ref] at e; unfold rdO at e; split at e <;> simp at e
theorem rd_int {W : Wd} {M : List O} {d : D} {v : V} {x : Int} (h : VR W d v) (e : rd M d = .int x) : v = .int x := by
  rcases rd_cases (M := M) d with q | ⟨a, rfl⟩
  · rw [q] at e; subst e; exact vr_int h
  · rw [rd_ref] at e; unfold rdO at e; split at e <;> simp at e
section
variable {X : Cx}
theorem p_idx : Prim2 X (L2.rIx X.K) fIdx := by
  intro W M H d d2 v v2 e Q hK hm r h1 h2 he k
  unfold fIdx at he
  split at he
  · rename_i xs i hr
    obtain ⟨p, vs, rfl, s, t⟩ := rd_lst r h1 hr
    obtain ⟨u, hu, ru⟩ := t.atI he
    rw [vr_int h2]
    exact .inl ⟨p, vs, i, u, rfl, rfl, hK ▸ s, hu, k W u H .refl r ru⟩
  · rename_i xs i hr
    obtain ⟨p, vs, rfl, s, t, _⟩ := rd_tup r h1 hr
    obtain ⟨u, hu, ru⟩ := t.atI he
    rw [vr_int h2]
    exact .inr (.inl ⟨p, vs, i, u, rfl, rfl, hK ▸ s, hu, k W u H .refl r ru⟩)
  · rename_i z i hr
    split at he
    · rename_i hl
      obtain ⟨c, hc, rfl⟩ := Option.map_eq_some_iff.mp he
      rw [vr_int h2, rd_str h1 hr]
      exact .inr (.inr ⟨z, i, c, rfl, rfl, by rw [lim_eq]; exact hl, hc, k W _ H .refl r (VR.str _)⟩)
    · cases he
  · cases he
theorem p_len : Prim1 X (fun v H Q => ∃ x n, [v] = [x] ∧ L2.LenV X.K x H n ∧ Q (.int n) H) fLen := by
  intro W M H d v e Q hK hm r h1 he k
  unfold fLen at he
  split at he
  · rename_i xs hr
    cases he
    obtain ⟨p, vs, rfl, s, t⟩ := rd_lst r h1 hr
    exact ⟨_, xs.length, rfl, .inl ⟨vs, hK ▸ s, t.length.symm⟩, k W _ H .refl r (VR.int _)⟩
  · rename_i xs hr
    cases he
    obtain ⟨p, vs, rfl, s, t, _⟩ := rd_tup r h1 hr
    exact ⟨_, xs.length, rfl, .inr ⟨vs, hK ▸ s, t.length.symm⟩, k W _ H .refl r (VR.int _)⟩
  · rename_i z hr
    split at he
    · rename_i hl
      cases he
      rw [rd_str h1 hr]
      exact ⟨_, z.length, rfl, ⟨by rw [lim_eq]; exact hl, rfl⟩, k W _ H .refl r (VR.int _)⟩
    · cases he
  · cases he
end
/-- a part of a slice: none, or an int -/
abbrev TO' := Env → List O → (Option Int → List O → Prop) → XQ → Prop
def oNo : TO' := fun _ M P _ => P none M
def oAt (m : TM) : TO' := fun env M P E => m env M (fun d M1 => ∃ i, d = .int i ∧ P (some i) M1) E
def lfo (A : Anc) (m : TO') : L2.TO := fun σ H Q => ∃ W env M P, Sit A W env M σ H ∧ m env M P A.E ∧
  ∀ W' d M' H', Step W H W' H' → RelM W' M' H' → P d M' → Q d H'
abbrev MO (A : Anc) (X : Cx) (x : Option Expr) (m : TO') : Prop := L2.PO X x (lfo A m)
/-- t[lo:hi] of a tuple, of a text -/
def fCut (d : D) (i j : Option Int) : Option D := match d with
  | .tup xs => some (.tup (cutD xs i j))
  | .str z => if z.length ≤ lim then some (.str (L2.cutS z i j)) else none
  | _ => none
def mCut (a : TM) (lo hi : TO') : TM := fun env M P E => a env M (fun d M1 => lo env M1 (fun i M2 => hi env M2 (fun j M3 => ∃ r, fCut d i j = some r ∧ P r M3) E) E) E
/-- a list's items -/
def lsD : D → Option (List D)
  | .lst xs => some xs
  | .slst xs => some xs
  | _ => none
theorem rd_ls {W : Wd} {M : List O} {H : Hp} {d : D} {v : V} {xs : List D} (r : RelM W M H) (h : VR W d v) (e : lsD (rd M d) = some xs) : ∃ p vs, v = .ref p ∧ SqL W.K H p vs ∧ VRs W xs vs := by
  cases hr : rd M d with
  | lst ys => rw [hr] at e; cases e; exact rd_lst r h hr
  | slst ys =>
    rw [hr] at e; cases e
    rcases rd_cases (M := M) d with q | ⟨a, rfl⟩
    · rw [q] at hr; subst hr
      obtain ⟨p, vs, rfl, s, t⟩ := vr_slst h
      exact ⟨p, vs, rfl, r.sub.sqL s, t⟩
    · rw [rd_ref] at hr; unfold rdO at hr; split at hr <;> simp at hr
  | _ => rw [hr] at e; cases e
/-- xs[lo:hi] of a list -/
def lCut (a : TM) (lo hi : TO') : TL := fun env M P E => a env M (fun d M1 => lo env M1 (fun i M2 => hi env M2 (fun j M3 => ∃ xs, lsD (rd M3 d) = some xs ∧ P (cutD xs i j) M3) E) E) E
section
variable {A : Anc} {X : Cx} (F : Fit A X) {a b : Expr} {ma mb : TM} {lo hi : Option Expr} {ml mh : TO'} {pos p2 : Pos}
theorem mo_no : MO A X none oNo := ⟨fun pins s σ H Q I ⟨W, env, M, P, st, h, k⟩ => L2.po_none.run pins s σ H Q I (k W none M H .refl st.rm h)⟩
theorem mo_at {e : Expr} (h : ME A X e ma) : MO A X (some e) (oAt ma) := by
  refine ⟨fun pins s σ H Q I ⟨W, env, M, P, st, h', k⟩ => (L2.po_some h).run pins s σ H Q I ⟨W, env, M, _, st, h', fun W1 d M1 v H1 s1 rm1 r1 ⟨i, e, hp⟩ => ?_⟩⟩
  subst e
  exact ⟨i, vr_int r1, k W1 _ M1 H1 s1 rm1 hp⟩
include F
theorem me_idx (ha : ME A X a ma) (hb : ME A X b mb) (hs : L2.PlainIx b := by exact fun _ _ => rfl) : ME A X (.Subscript a b pos) (m2 fIdx ma mb) := me2 F (L2.pe_ix L2.ix_seq ha hb hs) p_idx
theorem me_cut (ha : ME A X a ma) (hl : MO A X lo ml) (hh : MO A X hi mh) : ME A X (.Subscript a (.Slice lo hi none p2) pos) (mCut ma ml mh) := by
  refine pe_imp (L2.pe_slice (L2.SlR.or L2.sl_tupA L2.sl_str) ha hl hh) fun σ H Q ⟨W, env, M, P, s, h, k⟩ => ⟨W, env, M, _, s, h, fun W1 d M1 v H1 s1 rm1 r1 h1 => ?_⟩
  have S1 := s.next s1 rm1
  refine ⟨W1, env, M1, _, S1, h1, fun W2 i M2 H2 s2 rm2 h2 => ?_⟩
  have S2 := S1.next s2 rm2
  refine ⟨W2, env, M2, _, S2, h2, fun W3 j M3 H3 s3 rm3 ⟨r, he, hp⟩ => ?_⟩
  have S3 := S2.next s3 rm3
  have r3 := VR.mono (s2.trans s3).le _ _ r1
  have st := s1.trans (s2.trans s3)
  cases d with
  | tup xs =>
    cases (show some (D.tup (cutD xs i j)) = some r from he)
    obtain ⟨p, vs, rfl, sq, t⟩ := vr_tup r3
    have sq' : SqT X.K H3 p vs := by rw [← S3.K F]; exact rm3.sub.sqT sq
    refine .inl ⟨p, vs, rfl, sq', fun ⟨z1, z2⟩ => ?_, fun _ q hq => ?_⟩
    · refine k W3 _ M3 _ H3 st rm3 ?_ hp
      have : cutD xs i j = xs := by
        unfold cutD
        rw [← t.length, z1, z2, t.length]
        simp
      rw [this]; exact r3
    · obtain ⟨W', x1, x2, x3⟩ := lay_tup rm3 hq (t.cut i j)
      exact k W' _ M3 _ _ (st.trans x1) x2 x3 hp
  | str z =>
    have he' : (if z.length ≤ lim then some (D.str (L2.cutS z i j)) else none) = some r := he
    split at he'
    · rename_i hl
      cases he'
      rw [vr_str r3]
      exact .inr ⟨z, rfl, by rw [lim_eq]; exact hl, k W3 _ M3 _ H3 st rm3 (VR.str _) hp⟩
    · cases he'
  | _ => cases he
theorem ml_cut (ha : ME A X a ma) (hl : MO A X lo ml) (hh : MO A X hi mh) : ML A X (.Subscript a (.Slice lo hi none p2) pos) (lCut ma ml mh) := by
  refine pe_imp (L2.pe_slice L2.sl_list ha hl hh) fun σ H Q ⟨W, env, M, P, s, h, k⟩ => ⟨W, env, M, _, s, h, fun W1 d M1 v H1 s1 rm1 r1 h1 => ?_⟩
  have S1 := s.next s1 rm1
  refine ⟨W1, env, M1, _, S1, h1, fun W2 i M2 H2 s2 rm2 h2 => ?_⟩
  have S2 := S1.next s2 rm2
  refine ⟨W2, env, M2, _, S2, h2, fun W3 j M3 H3 s3 rm3 ⟨xs, hr, hp⟩ => ?_⟩
  have S3 := S2.next s3 rm3
  have st := s1.trans (s2.trans s3)
  obtain ⟨p, vs, rfl, sq, t⟩ := rd_ls rm3 (VR.mono (s2.trans s3).le _ _ r1) hr
  refine ⟨p, vs, rfl, (S3.K F) ▸ sq, fun q hq => ?_⟩
  obtain ⟨x1, x2, x3⟩ := lay_lst rm3 hq (t.cut i j)
  exact k W3 _ M3 q _ (st.trans x1) x2 x3 (back_none st rm3 hq) hp
end

/-- the module's names do not hide a built-in -/
def Blt (X : Cx) (x : Str) (v : Value) : Prop := L2.Gl X x ∧ X.mg x = none ∧ PySem.bootBuiltins x = some v
def fAbs : D → List O → Option D := fun a _ => match a with
  | .int i => some (.int (if i < 0 then -i else i))
  | _ => none
def fNeg : D → List O → Option D := fun a _ => match a with
  | .int i => some (.int (-i))
  | _ => none
def fInt : D → List O → Option D := fun a _ => match a with
  | .int i => some (.int i)
  | .bl b => some (.int (if b then 1 else 0))
  | _ => none
def fMax2 : D → D → List O → Option D := fI fun i j => some (.int (if j > i then j else i))
def fMin2 : D → D → List O → Option D := fI fun i j => some (.int (if j < i then j else i))
def fTup : D → List O → Option D := fun a M => match rd M a with
  | .lst xs => some (.tup xs)
  | .tup xs => some (.tup xs)
  | _ => none
def fList : D → List O → Option (List D) := fun a M => match rd M a with
  | .lst xs => some xs
  | .tup xs => some xs
  | _ => none
def bls : List D → Option (List Bool)
  | [] => some []
  | .bl b :: r => (bls r).map (b :: ·)
  | _ :: _ => none
def intL : List D → Option (List Int)
  | [] => some []
  | .int b :: r => (intL r).map (b :: ·)
  | _ :: _ => none
theorem VRs.bls {W : Wd} : ∀ {ds : List D} {vs : List V} {bs : List Bool}, VRs W ds vs → Mi.bls ds = some bs → vs = bs.map V.bl
  | [], vs, bs, h, e => by rw [h.inv0]; simp [Mi.bls] at e; subst e; rfl
  | d :: ds, vs, bs, h, e => by
    obtain ⟨v, r, rfl, a, b⟩ := h.inv
    cases d <;> simp [Mi.bls] at e
    obtain ⟨cs, hc, rfl⟩ := e
    rw [vr_bl a, VRs.bls b hc]; rfl
theorem VRs.intL {W : Wd} : ∀ {ds : List D} {vs : List V} {bs : List Int}, VRs W ds vs → Mi.intL ds = some bs → vs = bs.map V.int
  | [], vs, bs, h, e => by rw [h.inv0]; simp [Mi.intL] at e; subst e; rfl
  | d :: ds, vs, bs, h, e => by
    obtain ⟨v, r, rfl, a, b⟩ := h.inv
    cases d <;> simp [Mi.intL] at e
    obtain ⟨cs, hc, rfl⟩ := e
    rw [vr_int a, VRs.intL b hc]; rfl
def fAll : D → List O → Option D := fun a M => match rd M a with
  | .lst xs => (bls xs).map fun bs => .bl (bs.all id)
  | _ => none
def fAny : D → List O → Option D := fun a M => match rd M a with
  | .lst xs => (bls xs).map fun bs => .bl (bs.any id)
  | _ => none
def fSum : D → List O → Option D := fun a M => match rd M a with
  | .lst xs => (intL xs).map fun bs => .int bs.sum
  | _ => none
section
variable {A : Anc} {X : Cx} (F : Fit A X) {a b : Expr} {ma mb : TM} {pos p : Pos}
include F
theorem me_B1 {x : Str} {id : String} {r : List V → Hp → VK → Prop} {f : D → List O → Option D} (hc : L2.CallR X (.builtin id) r) (hb : Blt X x (.builtin id)) (hp : Prim1 X (fun v => r [v]) f) (ha : ME A X a ma)
    (hn : x ≠ "__name__" := by decide) (hdb : (x == ("__debug__" : Str)) = false := by decide) (he : PySem.starEach [a] X.env = (false, PySem.eval a X.env) :: PySem.starEach [] X.env := by rfl) : ME A X (.Call (.Name x p) [a] [] pos) (m1 f ma) :=
  me1 F (L2.pe_callB hc hb.1 hb.2.1 hb.2.2 (L2.pa_cons ha L2.pa_nil he) hn hdb he rfl) hp
theorem me_T1 {x : Str} {T : String} {r : List V → Hp → VK → Prop} {f : D → List O → Option D} (hc : L2.CallR X (.type T) r) (hb : Blt X x (.type T)) (hp : Prim1 X (fun v => r [v]) f) (ha : ME A X a ma)
    (hn : x ≠ "__name__" := by decide) (hdb : (x == ("__debug__" : Str)) = false := by decide) (he : PySem.starEach [a] X.env = (false, PySem.eval a X.env) :: PySem.starEach [] X.env := by rfl) : ME A X (.Call (.Name x p) [a] [] pos) (m1 f ma) :=
  me1 F (L2.pe_callTy hc hb.1 hb.2.1 hb.2.2 (L2.pa_cons ha L2.pa_nil he) hn hdb he rfl) hp
theorem ml_T1 {x : Str} {T : String} {r : List V → Hp → VK → Prop} {f : D → List O → Option (List D)} (hc : L2.CallR X (.type T) r) (hb : Blt X x (.type T)) (hp : PrimL1 X (fun v => r [v]) f) (ha : ME A X a ma)
    (hn : x ≠ "__name__" := by decide) (hdb : (x == ("__debug__" : Str)) = false := by decide) (he : PySem.starEach [a] X.env = (false, PySem.eval a X.env) :: PySem.starEach [] X.env := by rfl) : ML A X (.Call (.Name x p) [a] [] pos) (l1 f ma) :=
  ml1 F (L2.pe_callTy hc hb.1 hb.2.1 hb.2.2 (L2.pa_cons ha L2.pa_nil he) hn hdb he rfl) hp
theorem ml_B1 {x : Str} {id : String} {r : List V → Hp → VK → Prop} {f : D → List O → Option (List D)} (hc : L2.CallR X (.builtin id) r) (hb : Blt X x (.builtin id)) (hp : PrimL1 X (fun v => r [v]) f) (ha : ME A X a ma)
    (hn : x ≠ "__name__" := by decide) (hdb : (x == ("__debug__" : Str)) = false := by decide) (he : PySem.starEach [a] X.env = (false, PySem.eval a X.env) :: PySem.starEach [] X.env := by rfl) : ML A X (.Call (.Name x p) [a] [] pos) (l1 f ma) :=
  ml1 F (L2.pe_callB hc hb.1 hb.2.1 hb.2.2 (L2.pa_cons ha L2.pa_nil he) hn hdb he rfl) hp
theorem me_B2 {x : Str} {id : String} {r : List V → Hp → VK → Prop} {f : D → D → List O → Option D} (hc : L2.CallR X (.builtin id) r) (hb : Blt X x (.builtin id)) (hp : Prim2 X (fun v w => r [v, w]) f) (ha : ME A X a ma) (hbb : ME A X b mb)
    (hn : x ≠ "__name__" := by decide) (hdb : (x == ("__debug__" : Str)) = false := by decide) (he : PySem.starEach [a, b] X.env = (false, PySem.eval a X.env) :: PySem.starEach [b] X.env := by rfl)
    (he2 : PySem.starEach [b] X.env = (false, PySem.eval b X.env) :: PySem.starEach [] X.env := by rfl) (hpl : (PySem.backTo pos (PySem.starEach [b] X.env)).any (·.1) = false := by rfl) : ME A X (.Call (.Name x p) [a, b] [] pos) (m2 f ma mb) :=
  me2 F (r := fun v w => r [v, w]) (L2.pe_callB hc hb.1 hb.2.1 hb.2.2 (L2.pa_cons ha (L2.pa_cons hbb L2.pa_nil he2) he) hn hdb he hpl) hp
theorem me_neg (ha : ME A X a ma) : ME A X (.UnaryOp .USub a pos) (m1 fNeg ma) := by
  refine me1 F (L2.pe_un L2.un_neg ha) ?_
  intro W M H d v e Q hK hm r h1 he k
  unfold fNeg at he
  split at he
  · cases he; rw [vr_int h1]; exact ⟨_, rfl, k W _ H .refl r (VR.int _)⟩
  · cases he
theorem me_len (hb : Blt X "len" (.builtin "len")) (ha : ME A X a ma) (he : PySem.starEach [a] X.env = (false, PySem.eval a X.env) :: PySem.starEach [] X.env := by rfl) : ME A X (.Call (.Name "len" p) [a] [] pos) (m1 fLen ma) :=
  me_B1 F L2.call_len hb p_len ha (by decide) (by decide) he
theorem me_abs (hb : Blt X "abs" (.builtin "abs")) (ha : ME A X a ma) (he : PySem.starEach [a] X.env = (false, PySem.eval a X.env) :: PySem.starEach [] X.env := by rfl) : ME A X (.Call (.Name "abs" p) [a] [] pos) (m1 fAbs ma) := by
  refine me_B1 F L2.call_abs hb ?_ ha (by decide) (by decide) he
  intro W M H d v e Q hK hm r h1 he k
  unfold fAbs at he
  split at he
  · cases he; rw [vr_int h1]; exact ⟨_, rfl, k W _ H .refl r (VR.int _)⟩
  · cases he
theorem me_intOf (hb : Blt X "int" (.type "int")) (ha : ME A X a ma) (he : PySem.starEach [a] X.env = (false, PySem.eval a X.env) :: PySem.starEach [] X.env := by rfl) : ME A X (.Call (.Name "int" p) [a] [] pos) (m1 fInt ma) := by
  refine me_T1 F L2.call_int1 hb ?_ ha (by decide) (by decide) he
  intro W M H d v e Q hK hm r h1 he k
  unfold fInt at he
  split at he
  · cases he; rw [vr_int h1]; exact .inl ⟨_, rfl, k W _ H .refl r (VR.int _)⟩
  · cases he; rw [vr_bl h1]; exact .inr ⟨_, rfl, k W _ H .refl r (VR.int _)⟩
  · cases he
theorem me_max2 (hc : X.calm = true) (hb : Blt X "max" (.builtin "max")) (ha : ME A X a ma) (hbb : ME A X b mb) (he : PySem.starEach [a, b] X.env = (false, PySem.eval a X.env) :: PySem.starEach [b] X.env := by rfl)
    (he2 : PySem.starEach [b] X.env = (false, PySem.eval b X.env) :: PySem.starEach [] X.env := by rfl) (hpl : (PySem.backTo pos (PySem.starEach [b] X.env)).any (·.1) = false := by rfl) : ME A X (.Call (.Name "max" p) [a, b] [] pos) (m2 fMax2 ma mb) := by
  refine me_B2 F (L2.call_max2 hc) hb ?_ ha hbb (by decide) (by decide) he he2 hpl
  intro W M H d d2 v v2 e Q hK hm r h1 h2 he k
  unfold fMax2 fI at he
  split at he
  · cases he; rw [vr_int h1, vr_int h2]; exact ⟨_, _, rfl, k W _ H .refl r (VR.int _)⟩
  · cases he
theorem me_min2 (hc : X.calm = true) (hb : Blt X "min" (.builtin "min")) (ha : ME A X a ma) (hbb : ME A X b mb) (he : PySem.starEach [a, b] X.env = (false, PySem.eval a X.env) :: PySem.starEach [b] X.env := by rfl)
    (he2 : PySem.starEach [b] X.env = (false, PySem.eval b X.env) :: PySem.starEach [] X.env := by rfl) (hpl : (PySem.backTo pos (PySem.starEach [b] X.env)).any (·.1) = false := by rfl) : ME A X (.Call (.Name "min" p) [a, b] [] pos) (m2 fMin2 ma mb) := by
  refine me_B2 F (L2.call_min2 hc) hb ?_ ha hbb (by decide) (by decide) he he2 hpl
  intro W M H d d2 v v2 e Q hK hm r h1 h2 he k
  unfold fMin2 fI at he
  split at he
  · cases he; rw [vr_int h1, vr_int h2]; exact ⟨_, _, rfl, k W _ H .refl r (VR.int _)⟩
  · cases he
theorem me_tupOf (hb : Blt X "tuple" (.type "tuple")) (ha : ME A X a ma) (he : PySem.starEach [a] X.env = (false, PySem.eval a X.env) :: PySem.starEach [] X.env := by rfl) : ME A X (.Call (.Name "tuple" p) [a] [] pos) (m1 fTup ma) := by
  refine me_T1 F L2.call_tuple_of hb ?_ ha (by decide) (by decide) he
  intro W M H d v e Q hK hm r h1 he k
  unfold fTup at he
  split at he
  · rename_i xs hr
    cases he
    obtain ⟨q, vs, rfl, s, t⟩ := rd_lst r h1 hr
    refine ⟨q, vs, rfl, .inl ⟨hK ▸ s, fun l hl => ?_⟩⟩
    obtain ⟨W', x1, x2, x3⟩ := lay_tup r hl t
    exact k W' _ _ x1 x2 x3
  · rename_i xs hr
    cases he
    obtain ⟨q, vs, rfl, s, t, rfl⟩ := rd_tup r h1 hr
    exact ⟨q, vs, rfl, .inr ⟨hK ▸ s, k W _ H .refl r h1⟩⟩
  · cases he
theorem ml_listOf (hb : Blt X "list" (.type "list")) (ha : ME A X a ma) (he : PySem.starEach [a] X.env = (false, PySem.eval a X.env) :: PySem.starEach [] X.env := by rfl) : ML A X (.Call (.Name "list" p) [a] [] pos) (l1 fList ma) := by
  refine ml_T1 F L2.call_list_of hb ?_ ha (by decide) (by decide) he
  intro W M H d v e Q hK hm r h1 he k
  unfold fList at he
  split at he
  · rename_i xs hr
    cases he
    obtain ⟨q, vs, rfl, s, t⟩ := rd_lst r h1 hr
    refine ⟨q, vs, rfl, .inl (hK ▸ s), fun l hl => ?_⟩
    obtain ⟨x1, x2, x3⟩ := lay_lst r hl t
    exact k W l _ x1 x2 x3 hl
  · rename_i xs hr
    cases he
    obtain ⟨q, vs, rfl, s, t, rfl⟩ := rd_tup r h1 hr
    refine ⟨q, vs, rfl, .inr (hK ▸ s), fun l hl => ?_⟩
    obtain ⟨x1, x2, x3⟩ := lay_lst r hl t
    exact k W l _ x1 x2 x3 hl
  · cases he
theorem me_all (hc : X.calm = true) (hb : Blt X "all" (.builtin "all")) (ha : ME A X a ma) (he : PySem.starEach [a] X.env = (false, PySem.eval a X.env) :: PySem.starEach [] X.env := by rfl) : ME A X (.Call (.Name "all" p) [a] [] pos) (m1 fAll ma) := by
  refine me_B1 F (L2.cr_all hc) hb ?_ ha (by decide) (by decide) he
  intro W M H d v e Q hK hm r h1 he k
  unfold fAll at he
  split at he
  · rename_i xs hr
    obtain ⟨bs, hb, rfl⟩ := Option.map_eq_some_iff.mp he
    obtain ⟨q, vs, rfl, s, t⟩ := rd_lst r h1 hr
    exact ⟨q, bs, rfl, t.bls hb ▸ hK ▸ s, k W _ H .refl r (VR.bl _)⟩
  · cases he
theorem me_any (hc : X.calm = true) (hb : Blt X "any" (.builtin "any")) (ha : ME A X a ma) (he : PySem.starEach [a] X.env = (false, PySem.eval a X.env) :: PySem.starEach [] X.env := by rfl) : ME A X (.Call (.Name "any" p) [a] [] pos) (m1 fAny ma) := by
  refine me_B1 F (L2.cr_any hc) hb ?_ ha (by decide) (by decide) he
  intro W M H d v e Q hK hm r h1 he k
  unfold fAny at he
  split at he
  · rename_i xs hr
    obtain ⟨bs, hb, rfl⟩ := Option.map_eq_some_iff.mp he
    obtain ⟨q, vs, rfl, s, t⟩ := rd_lst r h1 hr
    exact ⟨q, bs, rfl, t.bls hb ▸ hK ▸ s, k W _ H .refl r (VR.bl _)⟩
  · cases he
theorem me_sum (hc : X.calm = true) (hb : Blt X "sum" (.builtin "sum")) (ha : ME A X a ma) (he : PySem.starEach [a] X.env = (false, PySem.eval a X.env) :: PySem.starEach [] X.env := by rfl) : ME A X (.Call (.Name "sum" p) [a] [] pos) (m1 fSum ma) := by
  refine me_B1 F (L2.cr_sum hc) hb ?_ ha (by decide) (by decide) he
  intro W M H d v e Q hK hm r h1 he k
  unfold fSum at he
  split at he
  · rename_i xs hr
    obtain ⟨bs, hb, rfl⟩ := Option.map_eq_some_iff.mp he
    obtain ⟨q, vs, rfl, s, t⟩ := rd_lst r h1 hr
    exact ⟨q, bs, rfl, t.intL hb ▸ hK ▸ s, k W _ H .refl r (VR.int _)⟩
  · cases he
end
end Mi
end
section
set_option maxHeartbeats 4000000
namespace Mi
open PySem (Str Addr Value Expr Stmt Pos PyData)
open L2 (V Hp HO SqL SqT upd upd_same upd_ne Cx TE TT TA TS TG TI It PE PT PA PS PSs PG PI VK St Ends)

abbrev NX := Env → List O → Prop
/-- what is wanted behind a statement -/
structure Kt where
  nx : NX
  rt : QE
  ex : XQ
abbrev TSm := Env → List O → Kt → Prop
/-- a target -/
abbrev TGm := D → Env → List O → NX → Prop
def Anc.nox (A : Anc) : Anc := { A with E := fun _ _ => False }
theorem Sit.nox {A : Anc} {W : Wd} {env : Env} {M : List O} {σ : St} {H : Hp} (s : Sit A W env M σ H) : Sit A.nox W env M σ H := ⟨s.st, s.rm, s.re⟩
theorem Fit.nox {A : Anc} {X : Cx} (f : Fit A X) : Fit A.nox X := ⟨f.K, f.mg⟩

def wipeE (env : Env) : List Nat → Env
  | [] => env
  | v :: vs => (wipeE env vs).set v none
theorem RelE.wipe {W : Wd} {env : Env} {σ : St} (r : RelE W env σ) : ∀ vs, RelE W (wipeE env vs) (L2.wipe σ vs)
  | [] => r
  | v :: vs => by
    have ih := r.wipe vs
    refine ⟨by simp [wipeE, L2.wipe, ih.len], fun i d h => ?_⟩
    unfold wipeE at h
    unfold L2.wipe
    by_cases e : v = i
    · subst e
      by_cases hl : v < (wipeE env vs).length
      · rw [List.getElem?_set_self hl] at h; cases h
      · rw [List.getElem?_eq_none (by simpa using hl)] at h; cases h
    · rw [List.getElem?_set_ne e] at h ⊢
      exact ih.var i d h
theorem wipe_set {σ : St} {i : Nat} {x : Option V} : ∀ {vs : List Nat}, i ∈ vs → L2.wipe (σ.set i x) vs = L2.wipe σ vs
  | [], h => by simp at h
  | v :: vs, h => by
    unfold L2.wipe
    by_cases hm : i ∈ vs
    · rw [wipe_set hm]
    · have e : i = v := by simpa [hm] using h
      subst e
      have : ∀ ws : List Nat, i ∉ ws → L2.wipe (σ.set i x) ws = (L2.wipe σ ws).set i x := by
        intro ws
        induction ws with
        | nil => intro _; rfl
        | cons w ws ih =>
          intro hw
          have hw' : i ≠ w ∧ i ∉ ws := by simpa using hw
          unfold L2.wipe
          rw [ih hw'.2, List.set_comm _ _ hw'.1]
      rw [this vs hm, List.set_set]
theorem wipe_idem (σ : St) (vs : List Nat) : L2.wipe (L2.wipe σ vs) vs = L2.wipe σ vs := by
  have : ∀ ws : List Nat, (∀ w ∈ ws, w ∈ vs) → L2.wipe (L2.wipe σ ws) vs = L2.wipe σ vs := by
    intro ws
    induction ws with
    | nil => intro _; rfl
    | cons w ws ih =>
      intro h
      show L2.wipe ((L2.wipe σ ws).set w none) vs = _
      rw [wipe_set (h w (by simp)), ih fun z hz => h z (by simp [hz])]
  exact this vs fun _ h => h
/-- vs: the slots that it may change -/
def lfg (A : Anc) (vs : List Nat) (g : TGm) : TG := fun v σ H Q => ∃ W env M d P, Sit A W env M σ H ∧ VR W d v ∧ g d env M P ∧
  ∀ W' env' M' σ' H', Step W H W' H' → RelM W' M' H' → RelE W' env' σ' → L2.wipe σ' vs = L2.wipe σ vs → P env' M' → Q σ' H'
abbrev MG (A : Anc) (vs : List Nat) (X : Cx) (x : Expr) (g : TGm) : Prop := PG X x (lfg A vs g)
theorem pg_imp {X : Cx} {e : Expr} {t t' : TG} (h : PG X e t) (i : ∀ v σ H Q, t' v σ H Q → t v σ H Q) : PG X e t' := ⟨fun pins s σ H v u Q I r hw => h.run pins s σ H v u Q I r (i v σ H Q hw)⟩
def gN (i : Nat) : TGm := fun d env M P => P (env.set i (some d)) M
/-- the items of a tuple, of a list to be unpacked -/
def itP : D → Option (List D)
  | .tup xs => some xs
  | _ => none
def gsW : List TGm → List D → Env → List O → NX → Prop
  | [], _, env, M, P => P env M
  | g :: gs, d :: ds, env, M, P => g d env M fun env' M' => gsW gs ds env' M' P
  | _ :: _, [], _, _, _ => False
def gT (gs : List TGm) : TGm := fun d env M P => ∃ xs, itP d = some xs ∧ xs.length = gs.length ∧ gsW gs xs env M P
def lfgs (A : Anc) (vs : List Nat) (gs : List TGm) : L2.TGs := fun ws σ H Q => ∃ W env M ds P, Sit A W env M σ H ∧ VRs W ds ws ∧ ds.length = gs.length ∧ gsW gs ds env M P ∧
  ∀ W' env' M' σ' H', Step W H W' H' → RelM W' M' H' → RelE W' env' σ' → L2.wipe σ' vs = L2.wipe σ vs → P env' M' → Q σ' H'
abbrev MGs (A : Anc) (vs : List Nat) (X : Cx) (xs : List Expr) (gs : List TGm) : Prop := L2.PGs X xs (lfgs A vs gs)
section
variable {A : Anc} {X : Cx} {vs : List Nat} {pos : Pos}
theorem mg_name {i : Nat} {x : Str} (h : PG X (.Name x pos) (L2.gName i)) (hi : i ∈ vs) : MG A vs X (.Name x pos) (gN i) := by
  refine pg_imp h fun v σ H Q ⟨W, env, M, d, P, s, r, hp, k⟩ => ?_
  exact k W _ M _ H .refl s.rm (s.re.set i r) (wipe_set hi) hp
theorem mgs_nil : MGs A vs X [] [] := by
  refine ⟨fun pins s σ H ws us Q I r ⟨W, env, M, ds, P, st, rv, hl, hp, k⟩ => ?_⟩
  have e : ds = [] := List.length_eq_zero_iff.mp hl
  subst e
  have e := rv.inv0
  subst e
  exact L2.pgs_nil.run pins s σ H [] us Q I r ⟨rfl, k W env M σ H .refl st.rm st.re rfl hp⟩
theorem mgs_cons {e : Expr} {es : List Expr} {g : TGm} {gs : List TGm} (h1 : MG A vs X e g) (h2 : MGs A vs X es gs)
    (hs : (PySem.assignEach (e :: es) X.env).map (·.2) = PySem.assign e X.env :: (PySem.assignEach es X.env).map (·.2) := by rfl) : MGs A vs X (e :: es) (g :: gs) := by
  refine ⟨fun pins s σ H ws us Q I r ⟨W, env, M, ds, P, st, rv, hl, hp, k⟩ => ?_⟩
  cases ds with
  | nil => simp at hl
  | cons d ds =>
    obtain ⟨w, wr, rfl, ra, rb⟩ := rv.inv
    refine (L2.pgs_cons h1 h2 hs).run pins s σ H _ us Q I r ⟨w, wr, rfl, W, env, M, d, _, st, ra, hp, fun W1 env1 M1 σ1 H1 s1 rm1 re1 hw1 hp1 => ?_⟩
    exact ⟨W1, env1, M1, ds, P, ⟨st.st.trans s1, rm1, re1⟩, VRs.mono s1.le _ _ rb, by simpa using hl, hp1, fun W' env' M' σ' H' s2 rm re hw hp' => k W' env' M' σ' H' (s1.trans s2) rm re (hw.trans hw1) hp'⟩
theorem mg_tup (F : Fit A X) {es : List Expr} {kk : Nat} {gs : List TGm} (hc : X.calm = true) (h : MGs A vs X es gs) (hn : (PySem.assignEach es X.env).length = gs.length := by rfl)
    (hst : (PySem.assignEach es X.env).findIdx? (·.1) = none := by rfl) : MG A vs X (.Tuple es kk pos) (gT gs) := by
  refine pg_imp (L2.pg_tup hc h hn hst) fun v σ H Q ⟨W, env, M, d, P, s, r, ⟨xs, he, hl, hp⟩, k⟩ => ?_
  cases d <;> simp [itP] at he
  subst he
  obtain ⟨p, ws, rfl, sq, t⟩ := vr_tup r
  refine ⟨p, ws, rfl, ?_, by rw [t.length, hl], W, env, M, _, P, s, t, hl, hp, k⟩
  rw [← s.K F]
  exact s.rm.sub.sqT sq
end

/-- J walks the items ds, wherever the world goes on from W -/
def Items (W : Wd) (J : It) (ds : List D) : Prop := ∀ W' M' H', WLe W W' → RelM W' M' H' →
  (∀ i, i < ds.length → J.go i H' ∧ ∀ x H'', J.yld i H' x H'' → ∃ W'' d, ds[i]? = some d ∧ Step W' H' W'' H'' ∧ RelM W'' M' H'' ∧ VR W'' d x) ∧ J.stop ds.length H'
def lfi (A : Anc) (m : TL) : TI := fun σ H R => ∃ W env M P, Sit A W env M σ H ∧ m env M P A.E ∧
  ∀ W' ds M' H' J, Step W H W' H' → RelM W' M' H' → Items W' J ds → P ds M' → R J H'
abbrev MI (A : Anc) (X : Cx) (tg x : Expr) (m : TL) : Prop := PI X tg x (lfi A m)
theorem pi_imp {X : Cx} {tg e : Expr} {t t' : TI} (h : PI X tg e t) (i : ∀ σ H Q, t' σ H Q → t σ H Q) : PI X tg e t' := ⟨fun pins s σ H Q I hw => h.run pins s σ H Q I (i σ H Q hw)⟩
theorem items_list {W : Wd} {K : PySem.W.Frag} {p : Addr} {vs : List V} {ds : List D} (hK : W.K = K) (s : SqL W.K W.F p vs) (t : VRs W ds vs) : Items W (L2.Itl K p) ds := by
  subst hK
  intro W' M' H' le rm
  have sq : SqL W.K H' p vs := by
    have := rm.sub.sqL (le.F.sqL s)
    exact this
  refine ⟨fun i hi => ?_, ⟨vs, sq, Nat.le_of_eq t.length⟩⟩
  obtain ⟨v, hv, rv⟩ := t.get (List.getElem?_eq_getElem hi)
  refine ⟨⟨vs, v, sq, hv⟩, fun x H'' ⟨e, y⟩ => ?_⟩
  subst e
  have := y vs sq
  rw [hv] at this; cases this
  exact ⟨W', ds[i], List.getElem?_eq_getElem hi, .refl, rm, VR.mono le _ _ rv⟩
theorem items_tup {W : Wd} {K : PySem.W.Frag} {p : Addr} {vs : List V} {ds : List D} (hK : W.K = K) (s : SqT W.K W.F p vs) (t : VRs W ds vs) : Items W (L2.Itt K p) ds := by
  subst hK
  intro W' M' H' le rm
  have sq : SqT W.K H' p vs := rm.sub.sqT (le.F.sqT s)
  refine ⟨fun i hi => ?_, ⟨vs, sq, Nat.le_of_eq t.length⟩⟩
  obtain ⟨v, hv, rv⟩ := t.get (List.getElem?_eq_getElem hi)
  refine ⟨⟨vs, v, sq, hv⟩, fun x H'' ⟨e, y⟩ => ?_⟩
  subst e
  have := y vs sq
  rw [hv] at this; cases this
  exact ⟨W', ds[i], List.getElem?_eq_getElem hi, .refl, rm, VR.mono le _ _ rv⟩
/-- the items of lo, lo + 1, .. -/
def rgD (lo : Int) (n : Nat) : List D := (List.range n).map fun i : Nat => .int (lo + (i : Int))
theorem items_range {W : Wd} {lo : Int} {n : Nat} : Items W (L2.Itr lo n) (rgD lo n) := by
  intro W' M' H' le rm
  have hl : (rgD lo n).length = n := by simp [rgD]
  refine ⟨fun i hi => ⟨by rw [hl] at hi; exact hi, fun x H'' ⟨e, y⟩ => ?_⟩, by rw [hl]; exact Nat.le_refl _⟩
  subst e y
  rw [hl] at hi
  exact ⟨W', _, by simp [rgD, hi], .refl, rm, VR.int _⟩
/-- a text's signs -/
def signs (z : Str) : List D := z.cps.toList.map fun c => .str ⟨#[c]⟩
theorem items_str {W : Wd} {z : Str} : Items W (L2.Its z) (signs z) := by
  intro W' M' H' le rm
  have hl : (signs z).length = z.cps.size := by simp [signs]
  refine ⟨fun i hi => ⟨?_, fun x H'' ⟨e, c, hc, y⟩ => ?_⟩, ?_⟩
  · rw [hl] at hi; exact hi
  · subst e y
    refine ⟨W', _, ?_, .refl, rm, VR.str _⟩
    unfold signs
    rw [List.getElem?_map, Array.getElem?_toList, hc]
    rfl
  · rw [hl]; exact Nat.le_refl _
/-- what a for walks of a value -/
def itD : D → Option (List D)
  | .lst xs => some xs
  | .tup xs => some xs
  | .str z => some (signs z)
  | _ => none
def iOf (m : TM) : TL := fun env M P E => m env M (fun d M1 => ∃ xs, itD d = some xs ∧ P xs M1) E
def iRg1 (a : TM) : TL := fun env M P E => a env M (fun d M1 => ∃ j : Int, d = .int j ∧ -(2 ^ 62) ≤ j ∧ j < 2 ^ 62 ∧ P (rgD 0 j.toNat) M1) E
def iRg2 (a b : TM) : TL := fun env M P E => a env M (fun d M1 => b env M1 (fun e M2 => ∃ i j : Int, d = .int i ∧ e = .int j ∧ (-(2 ^ 62) ≤ i ∧ i < 2 ^ 62 ∧ -(2 ^ 62) ≤ j ∧ j < 2 ^ 62) ∧ P (rgD i (j - i).toNat) M2) E) E
section
variable {A : Anc} {X : Cx} (F : Fit A X) {a b tg : Expr} {ma mb : TM} {pos p : Pos}
include F
theorem mi_of (ha : ME A X a ma) : MI A X tg a (iOf ma) := by
  refine ⟨fun pins s σ H R I ⟨W, env, M, P, st, h, k⟩ => ?_⟩
  refine L2.thn (ha.run pins s σ H (fun v H1 => ∃ W1 M1 d xs, Step W H W1 H1 ∧ RelM W1 M1 H1 ∧ VR W1 d v ∧ itD d = some xs ∧ P xs M1) I ⟨W, env, M, _, st, h, fun W1 d M1 v H1 s1 rm1 r1 ⟨xs, h1, h2⟩ => ⟨W1, M1, d, xs, s1, rm1, r1, h1, h2⟩⟩) fun v s1 ⟨x, H1, I1, r1, W1, M1, d, xs, st1, rm1, rv, hi, hp⟩ => ?_
  have K1 : W1.K = X.K := (st.next st1 rm1).K F
  have old : ∀ {o : PySem.Obj} {c : PySem.Obj}, ∀ b u, s1.heap.get? b = some u → (s1.heap.push o).get? b = some u := fun b u e => PySem.Heap.get?_push_of_some _ e
  have fpo : ∀ b, b ∈ [s1.heap.objs.size] → L2.FpOk X pins H1 b := fun b hb => by
    have e : b = s1.heap.objs.size := by simpa using hb
    rw [e]
    exact I1.fpOk (Nat.le_refl _) (I1.hok.fresh (Nat.le_refl _))
  cases d with
  | lst ys =>
    simp [itD] at hi; subst hi
    obtain ⟨q, vs, rfl, sq, t⟩ := vr_lst rv
    cases r1
    have sq' : SqL X.K H1 q vs := by rw [← K1]; exact rm1.sub.sqL sq
    obtain ⟨its, rvv, pl, _⟩ := I1.list sq'
    refine PySem.wpAny_pyIter_list pl.isList ⟨s1.heap.objs.size, [s1.heap.objs.size], _, _, H1, rfl, ?_, L2.turn_list q _, ?_, fpo, k W1 ys M1 H1 _ st1 rm1 (items_list K1 sq t) hp⟩
    · exact I1.kept (t' := s1.toks) fun b u e => PySem.Heap.get?_push_of_some _ e
    · exact ⟨_, PySem.Heap.get?_push_size _ rfl, rfl, rfl⟩
  | tup ys =>
    simp [itD] at hi; subst hi
    obtain ⟨q, vs, rfl, sq, t⟩ := vr_tup rv
    cases r1
    have sq' : SqT X.K H1 q vs := by rw [← K1]; exact rm1.sub.sqT sq
    obtain ⟨its, rvv, pl, _⟩ := I1.tuple sq'
    refine PySem.wpAny_pyIter_tuple (show s1.heap.IsTuple q its.toArray from pl) ⟨s1.heap.objs.size, [s1.heap.objs.size], _, _, H1, rfl, ?_, L2.turn_tuple q _, ?_, fpo, k W1 ys M1 H1 _ st1 rm1 (items_tup K1 sq t) hp⟩
    · exact I1.kept (t' := s1.toks) fun b u e => PySem.Heap.get?_push_of_some _ e
    · exact ⟨_, PySem.Heap.get?_push_size _ rfl, rfl, rfl⟩
  | str z =>
    simp [itD] at hi; subst hi
    rw [vr_str rv] at r1
    have hq := k W1 (signs z) M1 H1 _ st1 rm1 items_str hp
    obtain ⟨t, rfl⟩ := r1
    by_cases ha : z.cps.all (· < 128) = true
    · exact PySem.wpAny_pyIter_ascii ha (L2.pi_one (tk := s1.toks) I1 _ (L2.turn_str s1.heap.objs.size z t "str_ascii_iterator" (.inl rfl)) ⟨_, PySem.Heap.get?_push_size _ rfl, rfl, rfl⟩ hq)
    · have ha : z.cps.all (· < 128) = false := by simpa using ha
      exact PySem.wpAny_pyIter_wide ha (L2.pi_one (tk := s1.toks) I1 _ (L2.turn_str s1.heap.objs.size z t "str_iterator" (.inr rfl)) ⟨_, PySem.Heap.get?_push_size _ rfl, rfl, rfl⟩ hq)
  | _ => simp [itD] at hi
theorem mi_rg1 (hb : Blt X "range" (.type "range")) (ha : ME A X a ma) (hs : PySem.starEach [a] X.env = [(false, PySem.eval a X.env)] := by rfl) : MI A X tg (.Call (.Name "range" p) [a] [] pos) (iRg1 ma) := by
  refine pi_imp (L2.pi_range1 hb.1 hb.2.1 (L2.pa_cons ha L2.pa_nil hs) hs) fun σ H R ⟨W, env, M, P, s, h, k⟩ => ⟨W, env, M, _, s, h, fun W1 d M1 v H1 s1 rm1 r1 ⟨j, e, h1, h2, hp⟩ => ?_⟩
  subst e
  exact ⟨j, by rw [vr_int r1], h1, h2, k W1 _ M1 H1 _ s1 rm1 items_range hp⟩
theorem mi_rg2 (hb : Blt X "range" (.type "range")) (ha : ME A X a ma) (hbb : ME A X b mb) (hs : PySem.starEach [a, b] X.env = [(false, PySem.eval a X.env), (false, PySem.eval b X.env)] := by rfl)
    (hs2 : PySem.starEach [b] X.env = [(false, PySem.eval b X.env)] := by rfl) : MI A X tg (.Call (.Name "range" p) [a, b] [] pos) (iRg2 ma mb) := by
  refine pi_imp (L2.pi_range2 hb.1 hb.2.1 (L2.pa_cons ha (L2.pa_cons hbb L2.pa_nil hs2) (by rw [hs, hs2])) hs hs2) fun σ H R ⟨W, env, M, P, s, h, k⟩ => ⟨W, env, M, _, s, h, fun W1 d M1 v H1 s1 rm1 r1 h1 => ?_⟩
  have S1 := s.next s1 rm1
  refine ⟨W1, env, M1, _, S1, h1, fun W2 d2 M2 v2 H2 s2 rm2 r2 ⟨i, j, e1, e2, hz, hp⟩ => ?_⟩
  subst e1 e2
  exact ⟨i, j, by rw [vr_int r1, vr_int r2], hz, k W2 _ M2 H2 _ (s1.trans s2) rm2 items_range hp⟩
end
end Mi
end
section
set_option maxHeartbeats 4000000
namespace Mi
open PySem (Str Addr Value Expr Stmt Pos PyData)
open L2 (V Hp HO SqL SqT upd upd_same upd_ne Cx TE TT TA TS TG TI It PE PT PA PS PSs PG PI VK St Ends)

theorem RelM.grow {W : Wd} {M : List O} {H : Hp} {p : Addr} {o : HO} (r : RelM W M H) (hF : W.F p = none) (hι : p ∉ W.ι) : RelM W M (upd H p o) := by
  refine ⟨fun a u e => ?_, r.len, r.nd, fun i d q hi hq => ?_⟩
  · have ne : a ≠ p := by rintro rfl; rw [hF] at e; cases e
    rw [upd_ne ne]; exact r.sub a u e
  · have ne : q ≠ p := by rintro rfl; exact hι (List.mem_of_getElem? hq)
    exact OR.heap (H := H) (fun u h => by rw [upd_ne ne]; exact h) (r.cell i d q hi hq)
theorem Step.grow {W0 W : Wd} {H0 H : Hp} {p : Addr} {o : HO} (s : Step W0 H0 W H) (h0 : H0 p = none) : Step W0 H0 W (upd H p o) := by
  refine ⟨s.le, fun a u e n => ?_, s.newF, s.newC⟩
  have ne : a ≠ p := by rintro rfl; rw [h0] at e; cases e
  rw [upd_ne ne]; exact s.keep a u e n
/-- what is loose stays loose, as it is -/
theorem Step.loose {W W' : Wd} {H H' : Hp} {p : Addr} {o : HO} (s : Step W H W' H') (h : H p = some o) (hF : W.F p = none) (hι : p ∉ W.ι) : H' p = some o ∧ W'.F p = none ∧ p ∉ W'.ι := by
  refine ⟨s.keep p o h hι, ?_, fun hm => ?_⟩
  · by_cases e : W'.F p = W.F p
    · rw [e]; exact hF
    · rcases s.newF p e with z | z
      · rw [h] at z; cases z
      · exact absurd z hι
  · have := s.newC p hm hι
    rw [h] at this; cases this

def compW (step : D → List O → (Option D → List O → Prop) → Prop) : List D → List D → List O → QL → Prop
  | [], acc, M, P => P acc M
  | x :: r, acc, M, P => step x M fun y M' => match y with
    | some d => compW step r (acc ++ [d]) M' P
    | none => compW step r acc M' P
def noX : XQ := fun _ _ => False
def bYes : TB := fun _ M P _ => P true M
def compS (env : Env) (g : TGm) (tt : TB) (te : TM) : D → List O → (Option D → List O → Prop) → Prop :=
  fun x M k => g x env M fun env2 M2 => tt env2 M2 (fun b M3 => if b = true then te env2 M3 (fun y M4 => k (some y) M4) noX else k none M3) noX
def lComp (own : List Nat) (mi : TL) (g : TGm) (tt : TB) (te : TM) : TL := fun env M P E => mi env M (fun ds M1 => ds.length ≤ lim ∧ compW (compS (wipeE env own) g tt te) ds [] M1 P) E
abbrev MTs (A : Anc) (X : Cx) (xs : List Expr) (m : TB) : Prop := L2.PTs X xs (lft A m)
theorem mts_nil {A : Anc} {X : Cx} : MTs A X [] bYes := ⟨fun pins s σ H Q I ⟨W, env, M, P, st, h, k⟩ => L2.pts_nil.run pins s σ H Q I (k W true M H .refl st.rm h)⟩
theorem mts_one {A : Anc} {X : Cx} {c : Expr} {m : TB} (h : MT A X c m) : MTs A X [c] m := L2.pts_one h
section
variable {A : Anc} {X : Cx} {mi : TL} {g : TGm} {tt : TB} {te : TM} {own : List (Str × Nat)}
theorem imp_lc {σ : St} {H : Hp} {Q : VK} {W : Wd} {env : Env} {M : List O} {P : QL} (s : Sit A W env M σ H) (h : lComp (own.map (·.2)) mi g tt te env M P A.E)
    (k : ∀ W' xs M' p H', Step W H W' H' → RelM W' M' H' → Loose W' H' p xs → H p = none → P xs M' → Q (.ref p) H') :
    L2.tLc (lfi A mi) (lfg A.nox (own.map (·.2)) g) (lft A.nox tt) (lf A.nox te) (own.map (·.2)) σ H Q := by
  refine ⟨W, env, M, _, s, h, fun W1 ds M1 H1 J s1 rm1 hJ ⟨hl, hp⟩ D hD => ?_⟩
  have hHD : H D = none := back_none s1 rm1 hD
  have S1 := s.next s1 rm1
  have hs2 : ∀ x M k, compS (wipeE env (own.map (·.2))) g tt te x M k = g x (wipeE env (own.map (·.2))) M fun env2 M2 => tt env2 M2 (fun b M3 => if b = true then te env2 M3 (fun y M4 => k (some y) M4) noX else k none M3) noX := fun _ _ _ => rfl
  generalize hst : compS (wipeE env (own.map (·.2))) g tt te = stp at hp hs2
  refine ⟨fun i m H' => ∃ W' M' acc vs, i ≤ ds.length ∧ m = ds.length - i ∧ acc.length ≤ i ∧ Step W1 H1 W' H' ∧ RelM W' M' H' ∧ H' D = some (.lst vs) ∧ VRs W' acc vs ∧ W'.F D = none ∧ D ∉ W'.ι ∧ compW stp (ds.drop i) acc M' P, ?_, ?_⟩
  · obtain ⟨a, b, c, d⟩ := rm1.loose (o := .lst []) hD
    exact ⟨_, W1, M1, [], [], Nat.zero_le _, rfl, Nat.le_refl _, b, a, upd_same, .nil, c, d, hp⟩
  · rintro i m H' ⟨W', M', acc, vs, hi, rfl, ha, st, rm, hDv, rv, hF, hι, hc⟩
    obtain ⟨go, stop⟩ := hJ W' M' H' st.le rm
    by_cases hlt : i < ds.length
    · right
      obtain ⟨hgo, hy⟩ := go i hlt
      have hd : ds.drop i = ds[i] :: ds.drop (i + 1) := List.drop_eq_getElem_cons hlt
      rw [hd] at hc
      refine ⟨hgo, fun H4 => ∃ W' M' acc vs, acc.length ≤ i + 1 ∧ Step W1 H1 W' H4 ∧ RelM W' M' H4 ∧ H4 D = some (.lst vs) ∧ VRs W' acc vs ∧ W'.F D = none ∧ D ∉ W'.ι ∧ compW stp (ds.drop (i + 1)) acc M' P, ?_, ?_⟩
      · rintro H4 ⟨W4, M4, acc4, vs4, h1, h2, h3, h4, h5, h6, h7, h8⟩
        exact ⟨ds.length - (i + 1), by omega, W4, M4, acc4, vs4, hlt, rfl, h1, h2, h3, h4, h5, h6, h7, h8⟩
      · intro x H'' hyld
        obtain ⟨W2, d, e2, s2, rm2, r2⟩ := hy x H'' hyld
        rw [List.getElem?_eq_getElem hlt] at e2
        cases e2
        have st2 := st.trans s2
        have S2 : Sit A.nox W2 (wipeE env (own.map (·.2))) M' (L2.wipe σ (own.map (·.2))) H'' := ⟨S1.st.trans st2, rm2, (S1.re.mono st2.le).wipe _⟩
        have hc' : stp ds[i] M' fun y M' => match y with
          | some d => compW stp (ds.drop (i + 1)) (acc ++ [d]) M' P
          | none => compW stp (ds.drop (i + 1)) acc M' P := hc
        rw [hs2] at hc'
        refine ⟨W2, wipeE env (own.map (·.2)), M', _, _, S2, r2, hc', fun W3 env3 M3 σ3 H3 s3 rm3 re3 hw3 h3 => ⟨hw3.trans (wipe_idem _ _), ?_⟩⟩
        have S3 : Sit A.nox W3 env3 M3 σ3 H3 := ⟨S2.st.trans s3, rm3, re3⟩
        refine ⟨W3, env3, M3, _, S3, h3, fun W4 b M4 H4 s4 rm4 h4 => ?_⟩
        have S4 := S3.next s4 rm4
        have st4 := (st2.trans s3).trans s4
        have s24 := (s2.trans s3).trans s4
        cases b with
        | false =>
          simp only [Bool.false_eq_true, if_false] at h4 ⊢
          obtain ⟨z1, z2, z3⟩ := s24.loose hDv hF hι
          exact ⟨W4, M4, acc, vs, by omega, st4, rm4, z1, VRs.mono s24.le _ _ rv, z2, z3, h4⟩
        | true =>
          simp only [if_true] at h4 ⊢
          refine ⟨W4, env3, M4, _, S4, h4, fun W5 y M5 v H5 s5 rm5 r5 h5 => ?_⟩
          have s25 := s24.trans s5
          obtain ⟨z1, z2, z3⟩ := s25.loose hDv hF hι
          refine ⟨vs, z1, by rw [rv.length, lim_eq]; omega, W5, M5, acc ++ [y], vs ++ [v], by simp; omega, (st4.trans s5).grow hD, rm5.grow z2 z3, upd_same, (VRs.mono s25.le _ _ rv).append (.cons r5 .nil), z2, z3, h5⟩
    · left
      have e : i = ds.length := by omega
      subst e
      refine ⟨stop, ?_⟩
      rw [List.drop_length] at hc
      exact k W' acc M' D H' (s1.trans st) rm ⟨hF, hι, vs, hDv, rv⟩ hHD hc
theorem ml_comp {elt tg iter : Expr} {ifs : List Expr} {scope : PySem.Scope} {pos : Pos} (hc : X.calm = true) (hN : X.N.Nodup) (hi : MI A X tg iter mi) (ok : L2.BlkOk X.N X.env.scope scope own)
    (hg : ∀ (s : PySem.Shared) (H : Hp) (C : Addr) (cl : List (Str × Addr)) (fp : List Addr), MG A.nox (own.map (·.2)) (X.blk s H scope (PySem.compEnvC scope cl C X.env) fp) tg g)
    (ht : ∀ (s : PySem.Shared) (H : Hp) (C : Addr) (cl : List (Str × Addr)) (fp : List Addr), MTs A.nox (X.blk s H scope (PySem.compEnvC scope cl C X.env) fp) ifs tt)
    (he : ∀ (s : PySem.Shared) (H : Hp) (C : Addr) (cl : List (Str × Addr)) (fp : List Addr), ME A.nox (X.blk s H scope (PySem.compEnvC scope cl C X.env) fp) elt te)
    (hs : ∀ x, PySem.foldedSetIterable iter X.env x = pure x := by intro _; rfl) : ML A X (.ListComp elt [⟨tg, iter, ifs, 0⟩] scope pos) (lComp (own.map (·.2)) mi g tt te) :=
  pe_imp (L2.pe_lc hc hN hi ok hg ht he hs) fun σ H Q ⟨W, env, M, P, s, h, k⟩ => imp_lc s h k
end

def lfs (A : Anc) (m : TSm) : TS := fun D σ H => ∃ W env M K, Sit A W env M σ H ∧ m env M K ∧ K.ex = A.E ∧
  (∀ W' env' M' σ' H', Step W H W' H' → RelM W' M' H' → RelE W' env' σ' → K.nx env' M' → D.nx σ' H') ∧
  (∀ W' d M' v H', Step W H W' H' → RelM W' M' H' → VR W' d v → K.rt d M' → D.rt v H')
theorem xe {P : XQ → Prop} {a b : XQ} (h : a = b) (p : P a) : P b := h ▸ p
abbrev MS (A : Anc) (X : Cx) (x : Stmt) (m : TSm) : Prop := PS X x (lfs A m)
abbrev MSs (A : Anc) (X : Cx) (xs : List Stmt) (m : TSm) : Prop := PSs X xs (lfs A m)
def sNil : TSm := fun env M K => K.nx env M
def sSeq (a b : TSm) : TSm := fun env M K => a env M { K with nx := fun env' M' => b env' M' K }
def sExpr (a : TM) : TSm := fun env M K => a env M (fun _ M' => K.nx env M') K.ex
def sRet (a : TM) : TSm := fun env M K => a env M K.rt K.ex
def sIf (c : TB) (a b : TSm) : TSm := fun env M K => c env M (fun t M' => if t = true then a env M' K else b env M' K) K.ex
def sAsg (a : TM) (g : TGm) : TSm := fun env M K => a env M (fun d M' => g d env M' K.nx) K.ex
section
variable {A : Anc} {X : Cx} {x : Stmt} {xs : List Stmt} {ma : TM} {ms mt : TSm} {e : Expr} {pos : Pos}
/-- what comes behind a first part -/
theorem lfs_next {K : Kt} {D : Ends} {W W1 : Wd} {env env1 : Env} {M M1 : List O} {σ σ1 : St} {H H1 : Hp} {m : TSm} (s : Sit A W env M σ H) (s1 : Step W H W1 H1) (rm1 : RelM W1 M1 H1) (re1 : RelE W1 env1 σ1) (h : m env1 M1 K) (hex : K.ex = A.E)
    (k1 : ∀ W' env' M' σ' H', Step W H W' H' → RelM W' M' H' → RelE W' env' σ' → K.nx env' M' → D.nx σ' H') (k2 : ∀ W' d M' v H', Step W H W' H' → RelM W' M' H' → VR W' d v → K.rt d M' → D.rt v H') : lfs A m D σ1 H1 :=
  ⟨W1, env1, M1, K, ⟨s.st.trans s1, rm1, re1⟩, h, hex, fun W' env' M' σ' H' st rm re hp => k1 W' env' M' σ' H' (s1.trans st) rm re hp, fun W' d M' v H' st rm r hp => k2 W' d M' v H' (s1.trans st) rm r hp⟩
theorem mss_nil : MSs A X [] sNil := pss_imp L2.pss_nil fun D σ H ⟨W, env, M, K, s, h, hex, k1, k2⟩ => k1 W env M σ H .refl s.rm s.re h
theorem mss_cons (h1 : MS A X x ms) (h2 : MSs A X xs mt) : MSs A X (x :: xs) (sSeq ms mt) := by
  refine pss_imp (L2.pss_cons h1 h2) fun D σ H ⟨W, env, M, K, s, h, hex, k1, k2⟩ => ?_
  refine ⟨W, env, M, { K with nx := fun env' M' => mt env' M' K }, s, h, hex, fun W1 env1 M1 σ1 H1 s1 rm1 re1 h1 => ?_, k2⟩
  exact lfs_next s s1 rm1 re1 h1 hex k1 k2
theorem mss_one (h1 : MS A X x ms) : MSs A X [x] ms := L2.pss_one h1
theorem ms_pass : MS A X (.Pass pos) sNil := ps_imp L2.ps_pass fun D σ H ⟨W, env, M, K, s, h, hex, k1, k2⟩ => k1 W env M σ H .refl s.rm s.re h
theorem ms_expr (he : ME A X e ma) (hs : PySem.swapsWith e none pos.line X.env = pure false := by rfl) : MS A X (.Expr e pos) (sExpr ma) :=
  ps_imp (L2.ps_expr he hs) fun D σ H ⟨W, env, M, K, s, h, hex, k1, k2⟩ => ⟨W, env, M, _, s, xe (P := ma env M _) hex h, fun W1 d M1 v H1 s1 rm1 r1 h1 => k1 W1 env M1 σ H1 s1 rm1 (s.re.mono s1.le) h1⟩
theorem ms_ret (he : ME A X e ma) : MS A X (.Return (some e) pos) (sRet ma) :=
  ps_imp (L2.ps_ret he) fun D σ H ⟨W, env, M, K, s, h, hex, k1, k2⟩ => ⟨W, env, M, _, s, xe (P := ma env M _) hex h, k2⟩
def sRetN : TSm := fun _ M K => K.rt .non M
theorem ms_retN : MS A X (.Return none pos) sRetN :=
  ps_imp L2.ps_retN fun D σ H ⟨W, env, M, K, s, h, hex, k1, k2⟩ => k2 W .non M .non H .refl s.rm VR.non h
theorem ms_if {c : Expr} {tc : TB} {a b : List Stmt} (hc : MT A X c tc) (ha : MSs A X a ms) (hb : MSs A X b mt) : MS A X (.If c a b pos) (sIf tc ms mt) := by
  refine ps_imp (L2.ps_if hc ha hb) fun D σ H ⟨W, env, M, K, s, h, hex, k1, k2⟩ => ⟨W, env, M, _, s, xe (P := tc env M _) hex h, fun W1 t M1 H1 s1 rm1 h1 => ?_⟩
  cases t with
  | true => simp only [if_true] at h1 ⊢; exact lfs_next s s1 rm1 (s.re.mono s1.le) h1 hex k1 k2
  | false => simp only [Bool.false_eq_true, if_false] at h1 ⊢; exact lfs_next s s1 rm1 (s.re.mono s1.le) h1 hex k1 k2
theorem imp_asg {vs : List Nat} {g : TGm} : ∀ D σ H, lfs A (sAsg ma g) D σ H → L2.tAsg (lf A ma) (lfg A vs g) D σ H := by
  intro D σ H ⟨W, env, M, K, s, h, hex, k1, k2⟩
  refine ⟨W, env, M, _, s, xe (P := ma env M _) hex h, fun W1 d M1 v H1 s1 rm1 r1 h1 => ?_⟩
  exact ⟨W1, env, M1, d, _, s.next s1 rm1, r1, h1, fun W' env' M' σ' H' st rm re _ hp => k1 W' env' M' σ' H' (s1.trans st) rm re hp⟩
theorem ms_asg {vs : List Nat} {tg : Expr} {g : TGm} (he : ME A X e ma) (hg : MG A vs X tg g) (hs : PySem.swapsWithSole [tg] e pos.line X.env = pure false := by rfl) (hw : PySem.swappedStores [tg] e X.env = pure none := by rfl)
    (h1 : (PySem.assignEach [tg] X.env).map (·.2) = [PySem.assign tg X.env] := by rfl) : MS A X (.Assign [tg] e pos) (sAsg ma g) :=
  ps_imp (L2.ps_asg he hg hs hw h1) imp_asg
/-- name = value -/
theorem ms_set {i : Nat} {y : Str} {pos' : Pos} {te : TE} (h : PS X (.Assign [.Name y pos'] e pos) (L2.tAsg (lf A ma) (L2.gName i))) : MS A X (.Assign [.Name y pos'] e pos) (sAsg ma (gN i)) := by
  refine ps_imp h fun D σ H ⟨W, env, M, K, s, h, hex, k1, k2⟩ => ⟨W, env, M, _, s, xe (P := ma env M _) hex h, fun W1 d M1 v H1 s1 rm1 r1 h1 => ?_⟩
  exact k1 W1 _ M1 _ H1 s1 rm1 ((s.re.mono s1.le).set i r1) h1
/-- a, b = x, y -/
def sPar (i j : Nat) (a : TL) : TSm := fun env M K => a env M (fun ds M1 => ∃ d e, ds = [d, e] ∧ K.nx ((env.set i (some d)).set j (some e)) M1) K.ex
theorem ms_par {i j : Nat} {al : TL} (h : PS X x (L2.tPar i j (lfa A al))) : MS A X x (sPar i j al) := by
  refine ps_imp h fun D σ H ⟨W, env, M, K, s, h, hex, k1, k2⟩ => ⟨W, env, M, _, s, xe (P := al env M _) hex h, fun W1 ds M1 vs H1 s1 rm1 r1 ⟨d, e, e1, h1⟩ => ?_⟩
  subst e1
  obtain ⟨v, r, rfl, ra, rb⟩ := r1.inv
  obtain ⟨w, r, rfl, rc, rd⟩ := rb.inv
  have := rd.inv0
  subst this
  exact ⟨v, w, rfl, k1 W1 _ M1 _ H1 s1 rm1 (((s.re.mono s1.le).set i ra).set j rc) h1⟩
end

def forW (step : D → Env → List O → NX → Prop) : List D → Env → List O → NX → Prop
  | [], env, M, k => k env M
  | x :: r, env, M, k => step x env M fun env' M' => forW step r env' M' k
def forS (g : TGm) (tb : TSm) (K : Kt) : D → Env → List O → NX → Prop := fun x env M k => g x env M fun env2 M2 => tb env2 M2 { K with nx := k }
def sFor (mi : TL) (g : TGm) (tb : TSm) : TSm := fun env M K => mi env M (fun ds M1 => forW (forS g tb K) ds env M1 K.nx) K.ex
/-- the invariant I by a measure -/
def sWhile (c : TB) (tb : TSm) : TSm := fun env M K => ∃ I : Nat → Env → List O → Prop, (∃ m, I m env M) ∧ ∀ m env M, I m env M →
  c env M (fun t M1 => if t = true then tb env M1 { K with nx := fun env' M' => ∃ m', m' < m ∧ I m' env' M' } else K.nx env M1) K.ex
section
variable {A : Anc} {X : Cx} {pos : Pos} {mi : TL} {g : TGm} {tb : TSm} {tg iter : Expr} {body : List Stmt} {vs : List Nat}
theorem imp_for : ∀ D σ H, lfs A (sFor mi g tb) D σ H → L2.tFor (lfi A mi) (lfg A vs g) (lfs A tb) D σ H := by
  intro D σ H ⟨W, env, M, K, s, h, hex, k1, k2⟩
  refine ⟨W, env, M, _, s, xe (P := mi env M _) hex h, fun W1 ds M1 H1 J s1 rm1 hJ hp => ?_⟩
  have S1 := s.next s1 rm1
  refine ⟨fun i m σ' H' => ∃ W' env' M', i ≤ ds.length ∧ m = ds.length - i ∧ Step W1 H1 W' H' ∧ RelM W' M' H' ∧ RelE W' env' σ' ∧ forW (forS g tb K) (ds.drop i) env' M' K.nx, ⟨_, W1, env, M1, Nat.zero_le _, rfl, .refl, rm1, S1.re, hp⟩, ?_⟩
  rintro i m σ' H' ⟨W', env', M', hi, rfl, st, rm, re, hc⟩
  obtain ⟨go, stop⟩ := hJ W' M' H' st.le rm
  by_cases hlt : i < ds.length
  · right
    obtain ⟨hgo, hy⟩ := go i hlt
    rw [List.drop_eq_getElem_cons hlt] at hc
    refine ⟨hgo, fun σ4 H4 => ∃ W' env' M', Step W1 H1 W' H4 ∧ RelM W' M' H4 ∧ RelE W' env' σ4 ∧ forW (forS g tb K) (ds.drop (i + 1)) env' M' K.nx, ?_, ?_⟩
    · rintro σ4 H4 ⟨W4, env4, M4, h1, h2, h3, h4⟩
      exact ⟨ds.length - (i + 1), by omega, W4, env4, M4, hlt, rfl, h1, h2, h3, h4⟩
    · intro x H'' hyld
      obtain ⟨W2, d, e2, s2, rm2, r2⟩ := hy x H'' hyld
      rw [List.getElem?_eq_getElem hlt] at e2
      cases e2
      have st2 := st.trans s2
      have S2 : Sit A W2 env' M' σ' H'' := ⟨S1.st.trans st2, rm2, re.mono s2.le⟩
      have hc' : g ds[i] env' M' fun env2 M2 => tb env2 M2 { K with nx := fun env' M' => forW (forS g tb K) (ds.drop (i + 1)) env' M' K.nx } := hc
      refine ⟨W2, env', M', _, _, S2, r2, hc', fun W3 env3 M3 σ3 H3 s3 rm3 re3 _ h3 => ?_⟩
      have S3 : Sit A W3 env3 M3 σ3 H3 := ⟨S2.st.trans s3, rm3, re3⟩
      refine ⟨W3, env3, M3, _, S3, h3, hex, fun W4 env4 M4 σ4 H4 s4 rm4 re4 h4 => ?_, fun W4 d4 M4 v4 H4 s4 rm4 r4 h4 => ?_⟩
      · exact ⟨W4, env4, M4, (st2.trans s3).trans s4, rm4, re4, h4⟩
      · exact k2 W4 d4 M4 v4 H4 (((s1.trans st2).trans s3).trans s4) rm4 r4 h4
  · left
    have e : i = ds.length := by omega
    subst e
    rw [List.drop_length] at hc
    exact ⟨stop, k1 W' env' M' σ' H' (s1.trans st) rm re hc⟩
theorem ms_for (hp : PySem.PassesOwn (PySem.model X.prog X.w) X.A X.env X.xe) (hc : X.calm = true) (hi : MI A X tg iter mi) (hg : MG A vs X tg g) (hb : MSs A X body tb)
    (hs : ∀ x, PySem.foldedSetIterable iter X.env x = pure x := by intro _; rfl) : MS A X (.For tg iter body [] pos) (sFor mi g tb) := ps_imp (L2.ps_for hp hc hi hg hb hs) imp_for
theorem ms_while {c : Expr} {tc : TB} (hp : PySem.PassesOwn (PySem.model X.prog X.w) X.A X.env X.xe) (hc : MT A X c tc) (hb : MSs A X body tb) : MS A X (.While c body [] pos) (sWhile tc tb) := by
  refine ps_imp (L2.ps_while hp hc hb) fun D σ H ⟨W, env, M, K, s, ⟨I, ⟨m0, h0⟩, turn⟩, hex, k1, k2⟩ => ?_
  refine ⟨fun m σ' H' => ∃ W' env' M', Step W H W' H' ∧ RelM W' M' H' ∧ RelE W' env' σ' ∧ I m env' M', ⟨m0, W, env, M, .refl, s.rm, s.re, h0⟩, ?_⟩
  rintro m σ1 H1 ⟨W1, env1, M1, s1, rm1, re1, h1⟩
  have S1 : Sit A W1 env1 M1 σ1 H1 := ⟨s.st.trans s1, rm1, re1⟩
  refine ⟨W1, env1, M1, _, S1, xe (P := tc env1 M1 _) hex (turn m env1 M1 h1), fun W2 t M2 H2 s2 rm2 h2 => ?_⟩
  cases t with
  | true =>
    simp only [if_true] at h2 ⊢
    refine ⟨fun σ' H' => ∃ m', m' < m ∧ ∃ W' env' M', Step W H W' H' ∧ RelM W' M' H' ∧ RelE W' env' σ' ∧ I m' env' M', fun σ' H' h => h, ?_⟩
    refine ⟨W2, env1, M2, _, S1.next s2 rm2, h2, hex, fun W3 env3 M3 σ3 H3 s3 rm3 re3 ⟨m', hm, h3⟩ => ?_, fun W3 d M3 v H3 s3 rm3 r3 h3 => ?_⟩
    · exact ⟨m', hm, W3, env3, M3, (s1.trans s2).trans s3, rm3, re3, h3⟩
    · exact k2 W3 d M3 v H3 ((s1.trans s2).trans s3) rm3 r3 h3
  | false =>
    simp only [Bool.false_eq_true, if_false] at h2 ⊢
    exact k1 W2 env1 M2 σ1 H2 (s1.trans s2) rm2 (re1.mono s2.le) h2
end
end Mi
end
section
set_option maxHeartbeats 4000000
namespace Mi
open PySem (Str Addr Value Expr Stmt Pos PyData)
open L2 (V Hp HO SqL SqT upd upd_same upd_ne Cx TE TT TA TS TG TI It PE PT PA PS PSs PG PI VK XK WX St Ends)

mutual
/-- cells below n only -/
def RB (n : Nat) : D → Bool
  | .tup xs => RBs n xs
  | .lst xs => RBs n xs
  | .ins _ _ xs => RBs n xs
  | .dic _ xs => RBs n xs
  | .slst xs => RBs n xs
  | .ref a => decide (a < n)
  | _ => true
def RBs (n : Nat) : List D → Bool
  | [] => true
  | d :: ds => RB n d && RBs n ds
end
def RBO (n : Nat) : O → Bool
  | .lst xs => RBs n xs
  | .ins _ _ xs => RBs n xs
  | .dic _ xs => RBs n xs
  | .dead => true
/-- a cell above n as a value -/
def clO (n : Nat) : Option O → Option D
  | some (.lst xs) => if RBs n xs then some (.lst xs) else none
  | some (.ins c fs xs) => if RBs n xs then some (.ins c fs xs) else none
  | some (.dic ks xs) => if RBs n xs then some (.dic ks xs) else none
  | _ => none
mutual
/-- what is handed out of a frame that began at n cells -/
def clD (n : Nat) (M : List O) : D → Option D
  | .ref a => if a < n then some (.ref a) else clO n M[a]?
  | .tup xs => match clDs n M xs with
    | some ys => some (.tup ys)
    | none => none
  | .lst xs => match clDs n M xs with
    | some ys => some (.lst ys)
    | none => none
  | .ins c fs xs => match clDs n M xs with
    | some ys => some (.ins c fs ys)
    | none => none
  | .slst xs => match clDs n M xs with
    | some ys => some (.slst ys)
    | none => none
  | .dic ks xs => match clDs n M xs with
    | some ys => some (.dic ks ys)
    | none => none
  | d => some d
def clDs (n : Nat) (M : List O) : List D → Option (List D)
  | [] => some []
  | d :: ds => match clD n M d, clDs n M ds with
    | some x, some xs => some (x :: xs)
    | _, _ => none
end
theorem clDs_len {n : Nat} {M : List O} : ∀ {xs ys : List D}, clDs n M xs = some ys → ys.length = xs.length
  | [], ys, h => by simp [clDs] at h; subst h; rfl
  | d :: ds, ys, h => by
    unfold clDs at h
    split at h
    · rename_i x xs h1 h2
      cases h
      simp [clDs_len h2]
    · cases h
def CL (n : Nat) (d : D) (M : List O) (P : QE) : Prop := ∃ d', clD n M d = some d' ∧ (M.take n).all (RBO n) = true ∧ P d' (M.take n)
def Kcl (n : Nat) (P : QE) (E : XQ) : Kt := ⟨fun _ M => CL n .non M P, fun d M => CL n d M P, fun d M => CL n d M E⟩

/-- the world behind a frame -/
def wCl (n : Nat) (W : Wd) (H : Hp) : Wd := { W with F := fun a => if a ∈ W.ι.drop n then H a else W.F a, ι := W.ι.take n }
section
variable {n : Nat} {W : Wd} {M : List O} {H : Hp}
theorem wCl_F (rm : RelM W M H) : Le W.F (wCl n W H).F := fun a o e => by
  show (if a ∈ W.ι.drop n then H a else W.F a) = some o
  split
  · exact rm.sub a o e
  · exact e
mutual
theorem VR.rb (rm : RelM W M H) : ∀ (d : D) (v : V), RB n d = true → VR W d v → VR (wCl n W H) d v
  | .non, _, _, r => by unfold VR at r ⊢; exact r
  | .bl _, _, _, r => by unfold VR at r ⊢; exact r
  | .int _, _, _, r => by unfold VR at r ⊢; exact r
  | .str _, _, _, r => by unfold VR at r ⊢; exact r
  | .tup xs, v, b, r => by
    unfold VR at r ⊢
    obtain ⟨p, vs, e, s, t⟩ := r
    exact ⟨p, vs, e, wCl_F rm _ _ s, VRs.rb rm xs vs (by simpa [RB] using b) t⟩
  | .lst xs, v, b, r => by
    unfold VR at r ⊢
    obtain ⟨p, vs, e, s, t⟩ := r
    exact ⟨p, vs, e, wCl_F rm _ _ s, VRs.rb rm xs vs (by simpa [RB] using b) t⟩
  | .slst xs, v, b, r => by
    unfold VR at r ⊢
    obtain ⟨p, vs, e, s, t⟩ := r
    exact ⟨p, vs, e, (wCl_F rm).sqL s, VRs.rb rm xs vs (by simpa [RB] using b) t⟩
  | .ins c fs xs, v, b, r => by
    unfold VR at r ⊢
    obtain ⟨p, C, dx, vs, e, m, f, l, t⟩ := r
    exact ⟨p, C, dx, vs, e, m, wCl_F rm _ _ f, l, VRs.rb rm xs vs (by simpa [RB] using b) t⟩
  | .dic ks xs, v, b, r => by
    unfold VR at r ⊢
    obtain ⟨p, o, vs, e, f, dd, t⟩ := r
    exact ⟨p, o, vs, e, wCl_F rm _ _ f, dd, VRs.rb rm xs vs (by simpa [RB] using b) t⟩
  | .ref a, v, b, r => by
    unfold VR at r ⊢
    obtain ⟨p, e, f⟩ := r
    have b' : a < n := by simpa [RB] using b
    refine ⟨p, e, ?_⟩
    show (W.ι.take n)[a]? = some p
    rw [List.getElem?_take_of_lt b']; exact f
  | .gl x, v, _, r => by unfold VR at r ⊢; exact r
theorem VRs.rb (rm : RelM W M H) : ∀ (ds : List D) (vs : List V), RBs n ds = true → VRs W ds vs → VRs (wCl n W H) ds vs
  | [], _, _, r => by unfold VRs at r ⊢; exact r
  | d :: ds, vs, b, r => by
    unfold VRs at r ⊢
    obtain ⟨v, rr, e, x, y⟩ := r
    have b' : RB n d = true ∧ RBs n ds = true := by simpa [RBs] using b
    exact ⟨v, rr, e, VR.rb rm d v b'.1 x, VRs.rb rm ds rr b'.2 y⟩
end
mutual
theorem VR.cl (rm : RelM W M H) : ∀ (d d' : D) (v : V), clD n M d = some d' → VR W d v → VR (wCl n W H) d' v
  | .non, _, _, e, r => by cases e; exact VR.rb rm _ _ rfl r
  | .bl _, _, _, e, r => by cases e; exact VR.rb rm _ _ rfl r
  | .int _, _, _, e, r => by cases e; exact VR.rb rm _ _ rfl r
  | .str _, _, _, e, r => by cases e; exact VR.rb rm _ _ rfl r
  | .gl _, _, _, e, r => by cases e; exact VR.rb rm _ _ rfl r
  | .tup xs, d', v, e, r => by
    unfold clD at e
    split at e
    · rename_i ys h
      cases e
      unfold VR at r ⊢
      obtain ⟨p, vs, e, s, t⟩ := r
      exact ⟨p, vs, e, wCl_F rm _ _ s, VRs.cl rm xs ys vs h t⟩
    · cases e
  | .lst xs, d', v, e, r => by
    unfold clD at e
    split at e
    · rename_i ys h
      cases e
      unfold VR at r ⊢
      obtain ⟨p, vs, e, s, t⟩ := r
      exact ⟨p, vs, e, wCl_F rm _ _ s, VRs.cl rm xs ys vs h t⟩
    · cases e
  | .slst xs, d', v, e, r => by
    unfold clD at e
    split at e
    · rename_i ys h
      cases e
      unfold VR at r ⊢
      obtain ⟨p, vs, e, s, t⟩ := r
      exact ⟨p, vs, e, (wCl_F rm).sqL s, VRs.cl rm xs ys vs h t⟩
    · cases e
  | .ins c fs xs, d', v, e, r => by
    unfold clD at e
    split at e
    · rename_i ys h
      cases e
      unfold VR at r ⊢
      obtain ⟨p, C, dx, vs, e, m, f, l, t⟩ := r
      exact ⟨p, C, dx, vs, e, m, wCl_F rm _ _ f, l.trans (clDs_len h).symm, VRs.cl rm xs ys vs h t⟩
    · cases e
  | .dic ks xs, d', v, e, r => by
    unfold clD at e
    split at e
    · rename_i ys h
      cases e
      unfold VR at r ⊢
      obtain ⟨p, o, vs, e, f, dd, t⟩ := r
      exact ⟨p, o, vs, e, wCl_F rm _ _ f, dd, VRs.cl rm xs ys vs h t⟩
    · cases e
  | .ref a, d', v, e, r => by
    unfold clD at e
    split at e
    · rename_i hl
      cases e
      exact VR.rb rm _ _ (by simpa [RB] using hl) r
    · rename_i hl
      unfold VR at r
      obtain ⟨p, rfl, hp⟩ := r
      have hlt : a < M.length := by rw [← rm.len]; exact (List.getElem?_eq_some_iff.mp hp).1
      have hm := List.getElem?_eq_getElem hlt
      have oc := rm.cell a _ p hm hp
      have mem : p ∈ W.ι.drop n := List.mem_iff_getElem?.mpr ⟨a - n, by rw [List.getElem?_drop]; rw [show n + (a - n) = a by omega]; exact hp⟩
      have hFp : (wCl n W H).F p = H p := by show (if p ∈ W.ι.drop n then H p else W.F p) = _; rw [if_pos mem]
      rw [hm] at e
      cases ho : M[a] with
      | lst xs =>
        rw [ho] at e oc
        unfold clO at e
        dsimp only at e
        split at e
        · rename_i hb
          cases e
          obtain ⟨_, vs, h1, h2⟩ := oc
          unfold VR
          exact ⟨p, vs, rfl, by rw [hFp]; exact h1, VRs.rb rm xs vs hb h2⟩
        · cases e
      | ins c fs xs =>
        rw [ho] at e oc
        unfold clO at e
        dsimp only at e
        split at e
        · rename_i hb
          cases e
          obtain ⟨_, C, dx, vs, h0, h1, h3, h2⟩ := oc
          unfold VR
          exact ⟨p, C, dx, vs, rfl, h0, by rw [hFp]; exact h1, h3, VRs.rb rm xs vs hb h2⟩
        · cases e
      | dic ks xs =>
        rw [ho] at e oc
        unfold clO at e
        dsimp only at e
        split at e
        · rename_i hb
          cases e
          obtain ⟨_, o, vs, h1, h3, h2⟩ := oc
          unfold VR
          exact ⟨p, o, vs, rfl, by rw [hFp]; exact h1, h3, VRs.rb rm xs vs hb h2⟩
        · cases e
      | dead => rw [ho] at e; simp [clO] at e
theorem VRs.cl (rm : RelM W M H) : ∀ (ds ds' : List D) (vs : List V), clDs n M ds = some ds' → VRs W ds vs → VRs (wCl n W H) ds' vs
  | [], _, _, e, r => by cases e; unfold VRs at r ⊢; exact r
  | d :: ds, ds', vs, e, r => by
    unfold clDs at e
    split at e
    · rename_i y ys h1 h2
      cases e
      unfold VRs at r ⊢
      obtain ⟨v, rr, e, x, z⟩ := r
      exact ⟨v, rr, e, VR.cl rm d y v h1 x, VRs.cl rm ds ys rr h2 z⟩
    · cases e
end
/-- the frame goes -/
theorem close {W0 : Wd} {M0 : List O} {H0 : Hp} (r0 : RelM W0 M0 H0) (st : Step W0 H0 W H) (rm : RelM W M H) (hM : (M.take M0.length).all (RBO M0.length) = true) :
    Step W0 H0 (wCl M0.length W H) H ∧ (wCl M0.length W H).ι = W0.ι ∧ RelM (wCl M0.length W H) (M.take M0.length) H := by
  have hι : W.ι.take M0.length = W0.ι := by
    apply List.ext_getElem?
    intro i
    by_cases hi : i < M0.length
    · rw [List.getElem?_take_of_lt hi]
      have h0 : i < W0.ι.length := by rw [r0.len]; exact hi
      rw [List.getElem?_eq_getElem h0]
      exact st.le.ι i _ (List.getElem?_eq_getElem h0)
    · rw [List.getElem?_eq_none (by rw [List.length_take]; omega), List.getElem?_eq_none (by rw [r0.len]; omega)]
  have split : ∀ p, p ∈ W.ι → p ∈ W0.ι ∨ p ∈ W.ι.drop M0.length := fun p hp => by
    rw [← List.take_append_drop M0.length W.ι, hι] at hp
    exact List.mem_append.mp hp
  have apart : ∀ p, p ∈ W0.ι → p ∉ W.ι.drop M0.length := fun p h1 h2 => by
    have nd := rm.nd
    rw [← List.take_append_drop M0.length W.ι, hι, List.nodup_append] at nd
    exact nd.2.2 p h1 p h2 rfl
  refine ⟨⟨⟨st.le.K, st.le.mg, st.le.F.trans (wCl_F rm), fun i p h => by show (W.ι.take M0.length)[i]? = _; rw [hι]; exact h⟩, st.keep, fun a h => ?_, fun a h n => ?_⟩, hι, ⟨fun a o e => ?_, ?_, ?_, fun i o p hi hp => ?_⟩⟩
  · by_cases hm : a ∈ W.ι.drop M0.length
    · exact .inl (st.newC a (List.mem_of_mem_drop hm) fun h => apart a h hm)
    · have h' : (if a ∈ W.ι.drop M0.length then H a else W.F a) ≠ W0.F a := h
      rw [if_neg hm] at h'
      exact st.newF a h'
  · have h' : a ∈ W.ι.take M0.length := h
    rw [hι] at h'
    exact absurd h' n
  · have e' : (if a ∈ W.ι.drop M0.length then H a else W.F a) = some o := e
    split at e'
    · exact e'
    · exact rm.sub a o e'
  · show (W.ι.take M0.length).length = (M.take M0.length).length
    rw [List.length_take, List.length_take, rm.len]
  · exact rm.nd.sublist (List.take_sublist _ _)
  · have hlt : i < M0.length := by
      have := (List.getElem?_eq_some_iff.mp hi).1
      simp at this; omega
    have hp' : (W.ι.take M0.length)[i]? = some p := hp
    rw [List.getElem?_take_of_lt hlt] at hi hp'
    have hb : RBO M0.length o = true := by
      refine List.all_eq_true.mp hM o ?_
      exact List.mem_of_getElem? (i := i) (by rw [List.getElem?_take_of_lt hlt]; exact hi)
    have oc := rm.cell i o p hi hp'
    have np : p ∉ W.ι.drop M0.length := apart p (by rw [← hι]; exact List.mem_of_getElem? hp)
    have hF : (wCl M0.length W H).F p = W.F p := if_neg np
    cases o with
    | lst xs => obtain ⟨f, vs, h1, h2⟩ := oc; exact ⟨by rw [hF]; exact f, vs, h1, VRs.rb rm xs vs hb h2⟩
    | ins c fs xs => obtain ⟨f, C, dx, vs, h0, h1, h3, h2⟩ := oc; exact ⟨by rw [hF]; exact f, C, dx, vs, h0, h1, h3, VRs.rb rm xs vs hb h2⟩
    | dic ks xs => obtain ⟨f, o, vs, h1, h3, h2⟩ := oc; exact ⟨by rw [hF]; exact f, o, vs, h1, h3, VRs.rb rm xs vs hb h2⟩
    | dead => exact oc
end

/-- an exception's class and dict -/
def XR (W : Wd) (H : Hp) (d : D) (cls : Value) (dd : Option Addr) : Prop := ∃ c fs xs q vs, d = .ins c fs xs ∧ W.mg c = some cls ∧ dd = some q ∧ H q = some (.xd (fs.zip vs)) ∧ q ∉ W.ι ∧ fs.length = xs.length ∧ VRs W xs vs
def xk (A : Anc) : XK := fun cls dd H => ∃ W d M, Step A.W A.H W H ∧ RelM W M H ∧ XR W H d cls dd ∧ A.E d M
def Tk (A : Anc) (X : Cx) : Prop := L2.Takes X (fun cls dd _ H => xk A cls dd H)
theorem Tk.nox {A : Anc} {X : Cx} : Tk A.nox X := fun u s' ⟨_, _, _, _, _, _, _, _, _, _, _, _, _, _, _, _, w⟩ => by
  obtain ⟨_, _, _, _, _, _, z⟩ := w
  exact z.elim
theorem XR.cl {n : Nat} {W : Wd} {M : List O} {H : Hp} {d d' : D} {cls : Value} {dd : Option Addr} (rm : RelM W M H) (e : clD n M d = some d') (x : XR W H d cls dd) : XR (wCl n W H) H d' cls dd := by
  obtain ⟨c, fs, xs, q, vs, rfl, h1, h2, h3, h6, h4, h5⟩ := x
  unfold clD at e
  split at e
  · rename_i ys h
    cases e
    exact ⟨c, fs, ys, q, vs, rfl, h1, h2, h3, fun hm => h6 (List.mem_of_mem_take hm), h4.trans (clDs_len h).symm, VRs.cl rm xs ys vs h h5⟩
  · cases e

/-- arguments, memory, wishes -/
abbrev FSp := List D → List O → QE → XQ → Prop
def lsp (K : PySem.W.Frag) (mg : Str → Option Value) (sp : FSp) : L2.Sp := fun vs H Q E => ∃ W ds M P PE, W.K = K ∧ W.mg = mg ∧ RelM W M H ∧ VRs W ds vs ∧ sp ds M P PE ∧
  (∀ W' d M' v H', Step W H W' H' → RelM W' M' H' → VR W' d v → P d M' → Q v H') ∧
  (∀ W' d M' cls dd H', Step W H W' H' → RelM W' M' H' → XR W' H' d cls dd → PE d M' → E cls dd H')
/-- the names at the entry -/
def startE (n : Nat) (ds : List D) : Env := ds.map some ++ List.replicate (n - ds.length) none
theorem VRs.begin_ {W : Wd} {ds : List D} {vs : List V} (r : VRs W ds vs) (N : List Str) : RelE W (startE N.length ds) (L2.start N vs) := by
  refine ⟨by simp [startE, L2.start, r.length], fun i d h => ?_⟩
  unfold startE at h
  unfold L2.start
  by_cases hi : i < ds.length
  · rw [List.getElem?_append_left (by simpa using hi), List.getElem?_map] at h
    cases e : ds[i]? with
    | none => rw [e] at h; cases h
    | some d0 =>
      rw [e] at h; cases h
      obtain ⟨v, hv, rv⟩ := r.get e
      exact ⟨v, by rw [List.getElem?_append_left (by simpa [r.length] using hi), List.getElem?_map, hv]; rfl, rv⟩
  · rw [List.getElem?_append_right (by simpa using hi), List.getElem?_replicate] at h
    split at h <;> cases h
/-- what holds of the context of a def's body -/
structure Bd (k : Nat) (N : List Str) (sc : PySem.Scope) (P : PySem.Program) (w : PySem.World) (K : PySem.W.Frag) (mg : Str → Option Value) (base : PySem.Heap) (A : Anc) (X : Cx) : Prop where
  fit : Fit A X
  tk : Tk A X
  calm : X.calm = true
  N : X.N = N
  sc : X.env.scope = sc
  room : L2.Room k X.A
  po : PySem.PassesOwn (PySem.model X.prog X.w) X.A X.env X.xe
  stk : X.stack = X.env :: X.outer
  frm : X.env.frame = some X.env.locals
  prog : X.prog = P
  w : X.w = w
  K : X.K = K
  mg : X.mg = mg
  base : X.base = base
  fn : ∀ x, X.fn x = true
/-- a def's reading: body b over N names -/
def fSp (b : TSm) (n np : Nat) : FSp := fun ds M P E => ds.length = np ∧ b (startE n ds) M (Kcl M.length P E)
theorem fn_ok {P : PySem.Program} {w : PySem.World} {K : PySem.W.Frag} {mg : Str → Option Value} {base : PySem.Heap} {x qual : Str} {params : PySem.Arguments} {body : List Stmt} {scope : PySem.Scope} {dvs : List V} {kws : List (Str × V)} {f : Addr} {fd : PySem.FuncData}
    {N ps : List Str} {k : Nat} (F : L2.FunD K x qual params body scope dvs kws f fd) (S : L2.FnScope N ps scope) (b : TSm)
    (hbody : ∀ A X, Bd k N scope P w K mg base A X → MSs A X body b) : L2.FnOk P w K mg base (L2.CX P w) (k + 1) f fd ps (lsp K mg (fSp b N.length ps.length)) := by
  refine F.ok S (fun vs H Q E ⟨W, ds, M, P, PE, _, _, _, r, h, _⟩ => by rw [r.length]; exact h.1) fun cdv A outer s H vs Q E hr ⟨W, ds, M, P', PE, hK, hmg, rm, r, h, k1, k2⟩ => ?_
  let A' : Anc := ⟨W, H, fun d M' => CL M.length d M' PE⟩
  refine ⟨lfs A' b, hbody A' _ ⟨⟨hK, hmg⟩, ?_, rfl, rfl, rfl, hr, ?_, rfl, rfl, rfl, rfl, rfl, rfl, rfl, fun _ => rfl⟩, ?_⟩
  · refine (L2.takes_of (E := E) rfl rfl rfl rfl).imp fun cls dd _ H' ⟨W', d, M', st, rm', x, d', hd, hM, hp⟩ => ?_
    obtain ⟨a1, a2, a3⟩ := close rm st rm' hM
    exact k2 _ d' _ cls dd H' a1 a3 (x.cl rm' hd) hp
  · exact L2.passes_of rfl
  · refine ⟨W, startE N.length ds, M, Kcl M.length P' PE, ⟨.refl, rm, r.begin_ N⟩, h.2, rfl, fun W' env' M' σ' H' st rm' re ⟨d', hd, hM, hp⟩ => ?_, fun W' d M' v H' st rm' rv ⟨d', hd, hM, hp⟩ => ?_⟩
    · obtain ⟨a1, a2, a3⟩ := close rm st rm' hM
      exact k1 _ d' _ .non H' a1 a3 (VR.cl rm' .non d' .non hd VR.non) hp
    · obtain ⟨a1, a2, a3⟩ := close rm st rm' hM
      exact k1 _ d' _ v H' a1 a3 (VR.cl rm' d d' v hd rv) hp
end Mi
end
section
set_option maxHeartbeats 4000000
namespace Mi
open PySem (Str Addr Value Expr Stmt Pos PyData)
open L2 (V Hp HO SqL SqT upd upd_same upd_ne Cx TE TT TA TS TG TI It PE PT PA PS PSs PG PI VK XK WX St Ends)

/-- the program's side -/
structure Gd where
  P : PySem.Program
  w : PySem.World
  K : PySem.W.Frag
  mg : Str → Option Value
  base : PySem.Heap
/-- a context of ours: a body's, a comprehension's -/
structure Ct (G : Gd) (k : Nat) (N : List Str) (sc : PySem.Scope) (A : Anc) (X : Cx) : Prop where
  fit : Fit A X
  tk : Tk A X
  calm : X.calm = true
  nd : X.N.Nodup
  N : X.N = N
  sc : X.env.scope = sc
  room : L2.Room k X.A
  prog : X.prog = G.P
  w : X.w = G.w
  K : X.K = G.K
  mg : X.mg = G.mg
  base : X.base = G.base
theorem Bd.ct {k : Nat} {N : List Str} {sc : PySem.Scope} {G : Gd} {A : Anc} {X : Cx} (B : Bd k N sc G.P G.w G.K G.mg G.base A X) (nd : N.Nodup) : Ct G k N sc A X :=
  ⟨B.fit, B.tk, B.calm, by rw [B.N]; exact nd, B.N, B.sc, B.room, B.prog, B.w, B.K, B.mg, B.base⟩
/-- a comprehension's scope within sc -/
def relS (scope sc : PySem.Scope) : PySem.Scope := { scope with names := scope.names.map fun (n, k) => if (k == .free && sc.kind == .function && sc.names.lookup n == some .cell) then (n, .cell) else (n, k) }
theorem Ct.blk {G : Gd} {k : Nat} {N : List Str} {sc scope : PySem.Scope} {A : Anc} {X : Cx} (B : Ct G k N sc A X) (s : PySem.Shared) (H : Hp) (C : Addr) (cl : List (Str × Addr)) (fp : List Addr) : Ct G k N (relS scope sc) A.nox (X.blk s H scope (PySem.compEnvC scope cl C X.env) fp) :=
  ⟨⟨B.fit.K, B.fit.mg⟩, .nox, B.calm, B.nd, B.N, by show PySem.relabel scope X.env = _; unfold PySem.relabel relS; rw [← B.sc]; rfl, B.room, B.prog, B.w, B.K, B.mg, B.base⟩
def visB (sc : PySem.Scope) (x : Str) : Bool := match sc.names.lookup x with
  | some .local => true
  | some .cell => true
  | some .free => true
  | _ => false
def locB (sc : PySem.Scope) (x : Str) : Bool := match sc.names.lookup x with
  | some .local => true
  | _ => false
def lcB (sc : PySem.Scope) (x : Str) : Bool := match sc.names.lookup x with
  | some .local => true
  | some .cell => true
  | _ => false
def glB (sc : PySem.Scope) (x : Str) : Bool := match sc.names.lookup x with
  | some .globalImplicit => true
  | _ => false
theorem visB_ok {sc : PySem.Scope} {x : Str} (h : visB sc x = true) : L2.Vis sc x := by
  unfold visB at h
  split at h
  · exact .inl ‹_›
  · exact .inr (.inl ‹_›)
  · exact .inr (.inr ‹_›)
  · cases h
theorem lcB_ok {sc : PySem.Scope} {x : Str} (h : lcB sc x = true) : L2.Loc sc x := by
  unfold lcB at h
  split at h
  · exact .inl ‹_›
  · exact .inr ‹_›
  · cases h
theorem locB_ok {sc : PySem.Scope} {x : Str} (h : locB sc x = true) : sc.names.lookup x = some .local := by
  unfold locB at h
  split at h
  · assumption
  · cases h
theorem glB_ok {sc : PySem.Scope} {x : Str} (h : glB sc x = true) : sc.names.lookup x = some .globalImplicit := by
  unfold glB at h
  split at h
  · assumption
  · cases h
/-- names that hide no built-in -/
def NoGl (G : Gd) (l : List Str) : Prop := ∀ x ∈ l, G.mg x = none
section
variable {G : Gd} {k : Nat} {N : List Str} {sc : PySem.Scope} {A : Anc} {X : Cx} (B : Ct G k N sc A X)
include B
theorem Ct.gl {x : Str} (h : glB sc x = true) : L2.Gl X x := by
  show X.env.scope.names.lookup x = _
  rw [B.sc]; exact glB_ok h
theorem Ct.blt {x : Str} {v : Value} (h : glB sc x = true) (hm : G.mg x = none) (hv : PySem.bootBuiltins x = some v) : Blt X x v := ⟨B.gl h, by rw [B.mg]; exact hm, hv⟩
theorem k_var {i : Nat} {x : Str} {pos : Pos} (hi : N[i]? = some x) (hv : visB sc x = true) (hd : (x == ("__debug__" : Str)) = false := by decide) (hcd : (x == ("__classdict__" : Str)) = false := by decide) : ME A X (.Name x pos) (mVar i) :=
  me_var (L2.pe_var (by rw [B.N]; exact hi) (by rw [B.sc]; exact visB_ok hv) hd hcd)
theorem k_gN {vs : List Nat} {i : Nat} {x : Str} {pos : Pos} (hi : N[i]? = some x) (hl : lcB sc x = true) (hv : vs.contains i = true) (hf : X.fn x = true ∨ locB sc x = true) : MG A vs X (.Name x pos) (gN i) :=
  mg_name (L2.pg_name B.nd (by rw [B.N]; exact hi) (by rw [B.sc]; exact lcB_ok hl) (hf.imp id fun h => by rw [B.sc]; exact locB_ok h)) (by simpa using hv)
theorem k_set {i : Nat} {x : Str} {pos pos' : Pos} {e : Expr} {ma : TM} (hi : N[i]? = some x) (hl : lcB sc x = true) (hf : X.fn x = true ∨ locB sc x = true) (he : ME A X e ma) (hs : PySem.swapsWith e (some (.Name x pos')) pos.line X.env = pure false := by rfl) : MS A X (.Assign [.Name x pos'] e pos) (sAsg ma (gN i)) :=
  ms_set (te := lf A ma) (L2.ps_set B.nd (by rw [B.N]; exact hi) (by rw [B.sc]; exact lcB_ok hl) he hs (hf.imp id fun h => by rw [B.sc]; exact locB_ok h))
end

/-- the module's name x stands for a def that keeps sp; the last dds are its defaults -/
structure FnR (G : Gd) (k : Nat) (x : Str) (sp : FSp) (dds : List D) : Prop where
  ex : ∃ f fd ps ds dvs, L2.FnOk G.P G.w G.K G.mg G.base (L2.CX G.P G.w) k f fd ps (lsp G.K G.mg sp) ∧ G.mg x = some (.ref f) ∧ PySem.W.keepIn G.K (.ref f) = true ∧ L2.Binds G.K fd ps ds ∧ L2.Vals dvs ds ∧ ∀ W : Wd, W.K = G.K → W.mg = G.mg → VRs W dds dvs
/-- the class's name c: __init__ keeps sp -/
structure MkR (G : Gd) (k : Nat) (c : Str) (sp : FSp) (dds : List D) : Prop where
  ex : ∃ C f fd ps ds dvs, L2.FnOk G.P G.w G.K G.mg G.base (L2.CX G.P G.w) k f fd ps (lsp G.K G.mg sp) ∧ G.mg c = some (.ref C) ∧ L2.Mk G.K C f ∧ L2.Binds G.K fd ps ds ∧ L2.Vals dvs ds ∧ ∀ W : Wd, W.K = G.K → W.mg = G.mg → VRs W dds dvs
/-- a method -/
structure MeR (G : Gd) (k : Nat) (c m : Str) (sp : FSp) (dds : List D) : Prop where
  ex : ∃ C f fd ps ds dvs, L2.FnOk G.P G.w G.K G.mg G.base (L2.CX G.P G.w) k f fd ps (lsp G.K G.mg sp) ∧ G.mg c = some (.ref C) ∧ L2.Cls G.K C ∧ L2.Meth G.K C m f ∧ L2.Binds G.K fd ps ds ∧ L2.Vals dvs ds ∧ ∀ W : Wd, W.K = G.K → W.mg = G.mg → VRs W dds dvs
def mCall (sp : FSp) (dds : List D) (a : TL) : TM := fun env M P E => a env M (fun ds M1 => sp (ds ++ dds) M1 P E) E
def mMake (c : Str) (sp : FSp) (dds : List D) (a : TL) : TM := fun env M P E => a env M (fun ds M1 => sp (.ref M1.length :: (ds ++ dds)) (M1 ++ [.ins c [] []])
  (fun v M2 => v = .non ∧ CL M1.length (.ref M1.length) M2 P) (fun d M2 => CL M1.length d M2 E)) E
/-- an instance of c without an attribute m -/
def insB (c m : Str) : D → Bool
  | .ins c' fs _ => c' == c && !fs.contains m
  | _ => false
def mMeth (c m : Str) (sp : FSp) (dds : List D) (o : TM) (a : TL) : TM := fun env M P E => o env M (fun d M1 => insB c m (rd M1 d) = true ∧ a env M1 (fun ds M2 => sp (d :: (ds ++ dds)) M2 P E) E) E
theorem lookup_zip {m : Str} : ∀ {fs : List Str} {vs : List V}, fs.contains m = false → (fs.zip vs).lookup m = none
  | [], _, _ => rfl
  | f :: fs, [], _ => rfl
  | f :: fs, v :: vs, h => by
    rw [List.contains_cons, Bool.or_eq_false_iff] at h
    rw [List.zip_cons_cons, List.lookup_cons, h.1]
    exact lookup_zip h.2
theorem xk_passes {A : Anc} {X : Cx} (T : Tk A X) : L2.Passes (L2.CX X.prog X.w) X (xk A) := L2.passes_call T fun _ _ _ _ h => h
section
variable {G : Gd} {k j : Nat} {N : List Str} {sc : PySem.Scope} {A : Anc} {X : Cx} (B : Ct G k N sc A X) {x c m : Str} {sp : FSp} {dds : List D} {e o : Expr} {es : List Expr} {mr : TL} {mo : TM} {p pos apos : Pos}
include B
theorem imp_call (dvs : List V) (hdd : ∀ W : Wd, W.K = G.K → W.mg = G.mg → VRs W dds dvs) : ∀ σ H Q, lf A (mCall sp dds mr) σ H Q → L2.tCall (lsp G.K G.mg sp) dvs (xk A) (lfa A mr) σ H Q := by
  intro σ H Q ⟨W, env, M, P, s, h, k⟩
  refine ⟨W, env, M, _, s, h, fun W1 ds M1 vs H1 s1 rm1 r1 hsp => ?_⟩
  have S1 := s.next s1 rm1
  have e1 : W1.K = G.K := (S1.K B.fit).trans B.K
  have e2 : W1.mg = G.mg := (S1.mg B.fit).trans B.mg
  exact ⟨W1, _, M1, P, A.E, e1, e2, rm1, r1.append (hdd W1 e1 e2), hsp, fun W' d M' v H' st rm rv hp => k W' d M' v H' (s1.trans st) rm rv hp,
    fun W' d M' cls dd H' st rm xr hp => ⟨W', d, M', S1.st.trans st, rm, xr, hp⟩⟩
theorem k_call (R : FnR G j x sp dds) (hj : j ≤ k) (hg : glB sc x = true) (ha : MA A X (e :: es) mr) (hdb : (x == ("__debug__" : Str)) = false := by decide)
    (he : PySem.starEach (e :: es) X.env = (false, PySem.eval e X.env) :: PySem.starEach es X.env := by rfl) (hpl : (PySem.backTo pos (PySem.starEach es X.env)).any (·.1) = false := by rfl) : ME A X (.Call (.Name x p) (e :: es) [] pos) (mCall sp dds mr) := by
  obtain ⟨f, fd, ps, ds, dvs, F, hm, hk, hb, hd, hdd⟩ := R.ex
  refine pe_imp (L2.pe_call (sp := lsp G.K G.mg sp) (E := xk A) ?_ (B.room.mono hj) (B.gl hg) (by rw [B.mg]; exact hm) (by rw [B.K]; exact hk) (by rw [B.K]; exact hb) hd (xk_passes B.tk) ha hdb he hpl) (imp_call B dvs hdd)
  rw [B.prog, B.w, B.K, B.mg, B.base]; exact F
theorem k_call0 (R : FnR G j x sp dds) (hj : j ≤ k) (hg : glB sc x = true) (hdb : (x == ("__debug__" : Str)) = false := by decide) : ME A X (.Call (.Name x p) [] [] pos) (mCall sp dds aNil) := by
  obtain ⟨f, fd, ps, ds, dvs, F, hm, hk, hb, hd, hdd⟩ := R.ex
  refine pe_imp (L2.pe_call0 (sp := lsp G.K G.mg sp) (E := xk A) ?_ (B.room.mono hj) (B.gl hg) (by rw [B.mg]; exact hm) (by rw [B.K]; exact hk) (by rw [B.K]; exact hb) hd (xk_passes B.tk) hdb) fun σ H Q ⟨W, env, M, P, s, h, k⟩ => ?_
  · rw [B.prog, B.w, B.K, B.mg, B.base]; exact F
  · have e1 : W.K = G.K := (s.K B.fit).trans B.K
    have e2 : W.mg = G.mg := (s.mg B.fit).trans B.mg
    exact ⟨W, _, M, P, A.E, e1, e2, s.rm, hdd W e1 e2, h, fun W' d M' v H' st rm rv hp => k W' d M' v H' st rm rv hp, fun W' d M' cls dd H' st rm xr hp => ⟨W', d, M', s.st.trans st, rm, xr, hp⟩⟩
theorem imp_meth {C : Addr} (hC : G.mg c = some (.ref C)) (dvs : List V) (hdd : ∀ W : Wd, W.K = G.K → W.mg = G.mg → VRs W dds dvs) {ta : TA} (hta : ∀ σ H Q, lfa A mr σ H Q → ta σ H Q) :
    ∀ σ H Q, lf A (mMeth c m sp dds mo mr) σ H Q → L2.tMeth C m (lsp G.K G.mg sp) dvs (xk A) (lf A mo) ta σ H Q := by
  intro σ H Q ⟨W, env, M, P, s, h, k⟩
  refine ⟨W, env, M, _, s, h, fun W1 d M1 v H1 s1 rm1 r1 ⟨hi, h1⟩ => ?_⟩
  have S1 := s.next s1 rm1
  have g1 : W1.mg = G.mg := (S1.mg B.fit).trans B.mg
  cases hrd : rd M1 d with
  | ins c' fs xs =>
    rw [hrd] at hi
    simp only [insB, Bool.and_eq_true, beq_iff_eq, Bool.not_eq_true'] at hi
    obtain ⟨rfl, hn⟩ := hi
    obtain ⟨q, C', dx, vs, rfl, hm, hq, _, _⟩ := rd_ins rm1 r1 hrd
    rw [g1, hC] at hm
    cases hm
    refine ⟨q, dx, _, rfl, hq, lookup_zip hn, hta σ H1 _ ⟨W1, env, M1, _, S1, h1, fun W2 ds M2 vs2 H2 s2 rm2 r2 hsp => ?_⟩⟩
    have S2 := S1.next s2 rm2
    have e1 : W2.K = G.K := (S2.K B.fit).trans B.K
    have e2 : W2.mg = G.mg := (S2.mg B.fit).trans B.mg
    exact ⟨W2, _, M2, P, A.E, e1, e2, rm2, .cons (VR.mono s2.le _ _ r1) (r2.append (hdd W2 e1 e2)), hsp, fun W' d M' v H' st rm rv hp => k W' d M' v H' ((s1.trans s2).trans st) rm rv hp,
      fun W' d M' cls dd H' st rm xr hp => ⟨W', d, M', S2.st.trans st, rm, xr, hp⟩⟩
  | non => rw [hrd] at hi; simp [insB] at hi
  | bl _ => rw [hrd] at hi; simp [insB] at hi
  | int _ => rw [hrd] at hi; simp [insB] at hi
  | str _ => rw [hrd] at hi; simp [insB] at hi
  | tup _ => rw [hrd] at hi; simp [insB] at hi
  | lst _ => rw [hrd] at hi; simp [insB] at hi
  | dic _ _ => rw [hrd] at hi; simp [insB] at hi
  | slst _ => rw [hrd] at hi; simp [insB] at hi
  | ref _ => rw [hrd] at hi; simp [insB] at hi
  | gl _ => rw [hrd] at hi; simp [insB] at hi
theorem k_meth {pl : PySem.Sem Bool} (R : MeR G j c m sp dds) (hj : j ≤ k) (ho : ME A X o mo) (ha : MA A X (e :: es) mr)
    (hst : PySem.starEach (e :: es) X.env = (false, PySem.eval e X.env) :: PySem.starEach es X.env := by rfl) (hpl : (PySem.backTo pos (PySem.starEach es X.env)).any (·.1) = false := by rfl)
    (ht : PySem.eval (.Call (.Attribute o m apos) (e :: es) [] pos) X.env = (do
      let ov ← PySem.eval o X.env
      PySem.standAt apos.atName
      let (f, first) ← PySem.holding [ov] (PySem.getMethod ov m pl)
      PySem.callWith pos f first (PySem.backTo pos (PySem.starEach (e :: es) X.env)) (PySem.backToKw pos (PySem.keywordEach [] X.env))) := by rfl) :
    ME A X (.Call (.Attribute o m apos) (e :: es) [] pos) (mMeth c m sp dds mo mr) := by
  obtain ⟨C, f, fd, ps, ds, dvs, F, hC, hc, hm, hb, hd, hdd⟩ := R.ex
  refine pe_imp (L2.pe_meth (sp := lsp G.K G.mg sp) (E := xk A) ho (by rw [B.K]; exact hc) (by rw [B.K]; exact hm) ?_ (B.room.mono hj) (by rw [B.K]; exact hb) hd (xk_passes B.tk) ha hst hpl ht) (imp_meth B hC dvs hdd fun _ _ _ h => h)
  rw [B.prog, B.w, B.K, B.mg, B.base]; exact F
theorem k_meth0 {pl : PySem.Sem Bool} (R : MeR G j c m sp dds) (hj : j ≤ k) (ho : ME A X o mo)
    (ht : PySem.eval (.Call (.Attribute o m apos) [] [] pos) X.env = (do
      let ov ← PySem.eval o X.env
      PySem.standAt apos.atName
      let (f, first) ← PySem.holding [ov] (PySem.getMethod ov m pl)
      PySem.callWith pos f first (PySem.backTo pos (PySem.starEach [] X.env)) (PySem.backToKw pos (PySem.keywordEach [] X.env))) := by rfl) :
    ME A X (.Call (.Attribute o m apos) [] [] pos) (mMeth c m sp dds mo aNil) := by
  obtain ⟨C, f, fd, ps, ds, dvs, F, hC, hc, hm, hb, hd, hdd⟩ := R.ex
  refine pe_imp (L2.pe_meth0 (sp := lsp G.K G.mg sp) (E := xk A) ho (by rw [B.K]; exact hc) (by rw [B.K]; exact hm) ?_ (B.room.mono hj) (by rw [B.K]; exact hb) hd (xk_passes B.tk) ht) (imp_meth B hC dvs hdd fun σ H Q ⟨W, env, M, P, s, h, k⟩ => k W _ M _ H .refl s.rm .nil h)
  rw [B.prog, B.w, B.K, B.mg, B.base]; exact F
theorem imp_make {C : Addr} (hC : G.mg c = some (.ref C)) (dvs : List V) (hdd : ∀ W : Wd, W.K = G.K → W.mg = G.mg → VRs W dds dvs) {ta : TA} (hta : ∀ σ H Q, lfa A mr σ H Q → ta σ H Q) :
    ∀ σ H Q, lf A (mMake c sp dds mr) σ H Q → L2.tMake C (lsp G.K G.mg sp) dvs (xk A) ta σ H Q := by
  intro σ H Q ⟨W, env, M, P, s, h, k⟩
  refine hta σ H _ ⟨W, env, M, _, s, h, fun W1 ds M1 vs H1 s1 rm1 r1 hsp x dx hx hdx hne => ?_⟩
  have S1 := s.next s1 rm1
  have e1 : W1.K = G.K := (S1.K B.fit).trans B.K
  have e2 : W1.mg = G.mg := (S1.mg B.fit).trans B.mg
  obtain ⟨ra, sa⟩ := rm1.lay (o := .own x) hdx
  have hx2 : upd H1 dx (.own x) x = none := by rw [upd_ne (Ne.symm hne)]; exact hx
  have fx : upd W1.F dx (.own x) x = none := by
    rw [upd_ne (Ne.symm hne)]
    cases e : W1.F x with
    | none => rfl
    | some u => have := rm1.sub x u e; rw [hx] at this; cases this
  obtain ⟨rb, sb⟩ := ra.cellNew (o := .ins C dx []) (c := .ins c [] []) hx2 ⟨fx, C, dx, [], by show W1.mg c = _; rw [e2]; exact hC, by rw [upd_same]; rfl, rfl, .nil⟩
  have s2 := sa.trans sb
  refine ⟨{ W1 with F := upd W1.F dx (.own x), ι := W1.ι ++ [x] }, _, _, _, _, e1, e2, rb, .cons ?_ ((VRs.mono s2.le _ _ r1).append (hdd _ e1 e2)), hsp, fun W' d M' v H' st rm rv ⟨hv, d', hd', hM, hp⟩ => ?_, fun W' d M' cls dd H' st rm xr ⟨d', hd', hM, hp⟩ => ?_⟩
  · unfold VR
    refine ⟨x, rfl, ?_⟩
    show (W1.ι ++ [x])[M1.length]? = some x
    rw [← rm1.len]; simp
  · subst hv
    have sT := s2.trans st
    obtain ⟨a1, a2, a3⟩ := close rm1 sT rm hM
    refine ⟨vr_non rv, k _ d' _ (.ref x) H' (s1.trans a1) a3 (VR.cl rm _ d' _ hd' ?_) hp⟩
    unfold VR
    refine ⟨x, rfl, st.le.ι _ _ ?_⟩
    show (W1.ι ++ [x])[M1.length]? = some x
    rw [← rm1.len]; simp
  · have sT := s2.trans st
    obtain ⟨a1, a2, a3⟩ := close rm1 sT rm hM
    exact ⟨_, d', _, S1.st.trans a1, a3, xr.cl rm hd', hp⟩
theorem k_make (R : MkR G j c sp dds) (hj : j + 1 ≤ k) (hg : glB sc c = true) (ha : MA A X (e :: es) mr) (hdb : (c == ("__debug__" : Str)) = false := by decide)
    (he : PySem.starEach (e :: es) X.env = (false, PySem.eval e X.env) :: PySem.starEach es X.env := by rfl) (hpl : (PySem.backTo pos (PySem.starEach es X.env)).any (·.1) = false := by rfl) : ME A X (.Call (.Name c p) (e :: es) [] pos) (mMake c sp dds mr) := by
  obtain ⟨C, f, fd, ps, ds, dvs, F, hm, hk, hb, hd, hdd⟩ := R.ex
  refine pe_imp (L2.pe_make (sp := lsp G.K G.mg sp) (E := xk A) (C := C) (by rw [B.K]; exact hk) ?_ (B.room.mono hj) (B.gl hg) (by rw [B.mg]; exact hm) (by rw [B.K]; exact hb) hd (xk_passes B.tk) ha hdb he hpl) (imp_make B hm dvs hdd fun _ _ _ h => h)
  rw [B.prog, B.w, B.K, B.mg, B.base]; exact F
theorem k_make0 (R : MkR G j c sp dds) (hj : j + 1 ≤ k) (hg : glB sc c = true) (hdb : (c == ("__debug__" : Str)) = false := by decide) : ME A X (.Call (.Name c p) [] [] pos) (mMake c sp dds aNil) := by
  obtain ⟨C, f, fd, ps, ds, dvs, F, hm, hk, hb, hd, hdd⟩ := R.ex
  refine pe_imp (L2.pe_make0 (sp := lsp G.K G.mg sp) (E := xk A) (C := C) (by rw [B.K]; exact hk) ?_ (B.room.mono hj) (B.gl hg) (by rw [B.mg]; exact hm) (by rw [B.K]; exact hb) hd (xk_passes B.tk) hdb) (imp_make B hm dvs hdd fun σ H Q ⟨W, env, M, P, s, h, k⟩ => k W _ M _ H .refl s.rm .nil h)
  rw [B.prog, B.w, B.K, B.mg, B.base]; exact F
end
/-- never reached -/
def sNo : TSm := fun _ _ _ => False
theorem ms_no {A : Anc} {X : Cx} {x : Stmt} : MS A X x sNo := ⟨fun pins s σ H D I ⟨_, _, _, _, _, h, _⟩ => h.elim⟩
theorem mss_no {A : Anc} {X : Cx} {x : List Stmt} : MSs A X x sNo := ⟨fun pins s σ H D I ⟨_, _, _, _, _, h, _⟩ => h.elim⟩
def mNo : TM := fun _ _ _ _ => False
theorem me_no {A : Anc} {X : Cx} {x : Expr} : ME A X x mNo := ⟨fun pins s σ H D I ⟨_, _, _, _, _, h, _⟩ => h.elim⟩
end Mi
end
section
set_option maxHeartbeats 4000000
namespace Mi
open PySem (Str Addr Value Expr Stmt Pos PyData)
open L2 (V Hp HO SqL SqT upd upd_same upd_ne Cx TE TT TA TS TG TI It PE PT PA PS PSs PG PI VK XK WX St Ends)

/-- what a method's rule asks, of a cell's items -/
def PrimM (X : Cx) (r : V → List V → Hp → VK → Prop) (f : List D → List D → List O → Option (D × List D)) : Prop :=
  ∀ (W : Wd) (M : List O) (H : Hp) (p : Addr) (xs ds : List D) (vs ws : List V) (e : D) (ys : List D) (Q : VK), W.K = X.K → W.mg = X.mg → RelM W M H → H p = some (.lst vs) → VRs W xs vs → VRs W ds ws → f xs ds M = some (e, ys) →
    (∀ u us, VR W e u → VRs W ys us → Q u (upd H p (.lst us))) → r (.ref p) ws H Q
def mMut (f : List D → List D → List O → Option (D × List D)) (o : TM) (a : TL) : TM := fun env M P E => o env M (fun s M1 => ∃ c ys, s = .ref c ∧ M1[c]? = some (.lst ys) ∧
  a env M1 (fun ds M2 => ∃ xs r zs, M2[c]? = some (.lst xs) ∧ f xs ds M2 = some (r, zs) ∧ P r (M2.set c (.lst zs))) E) E
theorem cell_lst {W : Wd} {M : List O} {H : Hp} {c : Nat} {v : V} {ys : List D} (rm : RelM W M H) (r : VR W (.ref c) v) (e : M[c]? = some (.lst ys)) : ∃ p vs, v = .ref p ∧ W.ι[c]? = some p ∧ W.F p = none ∧ H p = some (.lst vs) ∧ VRs W ys vs := by
  obtain ⟨p, rfl, hp⟩ := vr_ref r
  obtain ⟨f, vs, h1, h2⟩ := rm.cell c _ p e hp
  exact ⟨p, vs, rfl, hp, f, h1, h2⟩
section
variable {A : Anc} {X : Cx} (F : Fit A X) {o e : Expr} {es : List Expr} {mo : TM} {mr : TL} {name : Str} {id : String} {apos cpos : Pos} {r : V → List V → Hp → VK → Prop} {f : List D → List D → List O → Option (D × List D)}
include F
theorem imp_mut (p : PrimM X r f) {ta : TA} (hta : ∀ σ H Q, lfa A mr σ H Q → ta σ H Q) : ∀ σ H Q, lf A (mMut f mo mr) σ H Q → L2.tBM X.K "list" r (lf A mo) ta σ H Q := by
  intro σ H Q ⟨W, env, M, P, s, h, k⟩
  refine ⟨W, env, M, _, s, h, fun W1 d M1 v H1 s1 rm1 r1 ⟨c, ys, e1, hc, h1⟩ => ?_⟩
  subst e1
  have S1 := s.next s1 rm1
  obtain ⟨q, vs, rfl, hq, hF, hH, hv⟩ := cell_lst rm1 r1 hc
  refine ⟨.inl ⟨rfl, _, SqL.of hH⟩, hta σ H1 _ ⟨W1, env, M1, _, S1, h1, fun W2 ds M2 ws H2 s2 rm2 r2 ⟨xs, e, zs, hc2, he, hp⟩ => ?_⟩⟩
  have S2 := S1.next s2 rm2
  obtain ⟨q2, vs2, e2, hq2, hF2, hH2, hv2⟩ := cell_lst rm2 (VR.mono s2.le _ _ r1) hc2
  cases e2
  refine p W2 M2 H2 q xs ds vs2 ws e zs Q (S2.K F) (S2.mg F) rm2 hH2 hv2 r2 he fun u us ru rus => ?_
  obtain ⟨a, b⟩ := rm2.put (c := .lst zs) (o := .lst us) hq2 hF2 ⟨hF2, us, upd_same, rus⟩
  exact k W2 e _ u _ ((s1.trans s2).trans b) a ru hp
theorem me_mut (slot : PySem.Slot "list" name id) (hty : PySem.typeOf (.builtin id) = pure (.type "method_descriptor")) (hm : L2.MtR X id r) (p : PrimM X r f) (ho : ME A X o mo) (ha : MA A X (e :: es) mr)
    (hbase : PySem.attributeBase o name X.env (PySem.eval o X.env) = PySem.eval o X.env := by rfl)
    (hfew : ((PySem.backTo cpos (PySem.starEach (e :: es) X.env)).all (fun x => !x.1) && (PySem.backToKw cpos (PySem.keywordEach [] X.env)).all (fun x => x.1.isSome)
      && decide ((e :: es).length + ([] : List PySem.Keyword).length + (if ([] : List PySem.Keyword).isEmpty then 0 else 1) < 30)) = true := by rfl)
    (hline : (apos.endLine == cpos.line) = true := by rfl) (hs : PySem.starEach (e :: es) X.env = (false, PySem.eval e X.env) :: PySem.starEach es X.env := by rfl) (hplain : (PySem.backTo cpos (PySem.starEach es X.env)).any (·.1) = false := by rfl) :
    ME A X (.Call (.Attribute o name apos) (e :: es) [] cpos) (mMut f mo mr) :=
  pe_imp (L2.pe_bm PySem.F.plainAttrs_list slot hty hm ho ha hbase hfew hline hs hplain) (imp_mut F p fun _ _ _ h => h)
theorem me_mut0 (slot : PySem.Slot "list" name id) (hty : PySem.typeOf (.builtin id) = pure (.type "method_descriptor")) (hm : L2.MtR X id r) (p : PrimM X r f) (ho : ME A X o mo)
    (hbase : PySem.attributeBase o name X.env (PySem.eval o X.env) = PySem.eval o X.env := by rfl) (hline : (apos.endLine == cpos.line) = true := by rfl) :
    ME A X (.Call (.Attribute o name apos) [] [] cpos) (mMut f mo aNil) := by
  refine pe_imp (L2.pe_bm0 PySem.F.plainAttrs_list slot hty hm ho hbase hline) fun σ H Q h => ?_
  obtain ⟨W, env, M, P, s, h, k⟩ := imp_mut F p (ta := L2.tNil) (fun σ H Q ⟨W, env, M, P, s, h, k⟩ => k W _ M _ H .refl s.rm .nil h) σ H Q h
  exact ⟨W, env, M, P, s, h, k⟩
end
def fApp : List D → List D → List O → Option (D × List D) := fun xs ds _ => match ds with
  | [d] => if xs.length < lim then some (.non, xs ++ [d]) else none
  | _ => none
def fExt : List D → List D → List O → Option (D × List D) := fun xs ds M => match ds with
  | [d] => match rd M d with
    | .lst zs => if xs.length + zs.length ≤ lim then some (.non, xs ++ zs) else none
    | _ => none
  | _ => none
def fPop : List D → List D → List O → Option (D × List D) := fun xs ds _ => match ds with
  | [] => match xs[xs.length - 1]? with
    | some d => some (d, xs.dropLast)
    | none => none
  | _ => none
def fPopAt : List D → List D → List O → Option (D × List D) := fun xs ds _ => match ds with
  | [.int i] => if -(2 ^ 63) ≤ i ∧ i < 2 ^ 63 then match L2.ixN xs.length i with
    | some k => match xs[k]? with
      | some d => some (d, xs.eraseIdx k)
      | none => none
    | none => none
    else none
  | _ => none
theorem VRs.dropLast {W : Wd} {ds : List D} {vs : List V} (h : VRs W ds vs) : VRs W ds.dropLast vs.dropLast := by
  rw [List.dropLast_eq_take, List.dropLast_eq_take, h.length]
  exact h.take _
section
variable {A : Anc} {X : Cx} (F : Fit A X) {o e : Expr} {es : List Expr} {mo : TM} {mr : TL} {apos cpos : Pos}
theorem pm_app : PrimM X L2.rAppend fApp := by
  intro W M H p xs ds vs ws e ys Q hK hm rm hH hv hd he k
  unfold fApp at he
  split at he
  · split at he
    · rename_i d hl
      cases he
      obtain ⟨w, r, rfl, ra, rb⟩ := hd.inv
      have := rb.inv0; subst this
      exact ⟨p, vs, w, rfl, rfl, hH, by rw [lim_eq, hv.length]; exact hl, k _ _ VR.non (hv.append (.cons ra .nil))⟩
    · cases he
  · cases he
theorem pm_ext : PrimM X L2.rExtend fExt := by
  intro W M H p xs ds vs ws e ys Q hK hm rm hH hv hd he k
  unfold fExt at he
  split at he
  · rename_i d
    split at he
    · rename_i zs hz
      split at he
      · rename_i hl
        cases he
        obtain ⟨w, r, rfl, ra, rb⟩ := hd.inv
        have := rb.inv0; subst this
        obtain ⟨q, us, rfl, hq, hu⟩ := rd_lstH rm ra hz
        exact ⟨p, q, vs, us, rfl, rfl, hH, hq, by rw [lim_eq, hv.length, hu.length]; exact hl, k _ _ VR.non (hv.append hu)⟩
      · cases he
    · cases he
  · cases he
theorem pm_pop : PrimM X L2.rPop fPop := by
  intro W M H p xs ds vs ws e ys Q hK hm rm hH hv hd he k
  unfold fPop at he
  split at he
  · split at he
    · rename_i d hx
      cases he
      have := hd.inv0; subst this
      obtain ⟨u, hu, ru⟩ := hv.get hx
      exact ⟨p, vs, u, rfl, rfl, hH, by rw [hv.length]; exact hu, k _ _ ru hv.dropLast⟩
    · cases he
  · cases he
theorem ixN_seq {n k : Nat} {i : Int} (h : L2.ixN n i = some k) : PySem.seqIndex? i n = some k := by
  unfold L2.ixN at h
  unfold PySem.seqIndex?
  split at h
  · split at h
    · cases h
      have h1 : ¬ i < 0 := by omega
      simp only [h1, if_false]
      rw [if_pos (by simp; omega)]
    · cases h
  · split at h
    · cases h
      have h1 : i < 0 := by omega
      simp only [h1, if_true]
      rw [if_pos (by simp; omega)]
    · cases h
theorem pm_popAt : PrimM X L2.rPopAt fPopAt := by
  intro W M H p xs ds vs ws e ys Q hK hm rm hH hv hd he k
  unfold fPopAt at he
  split at he
  · rename_i i
    split at he
    · rename_i hb
      split at he
      · rename_i j hj
        split at he
        · rename_i d hx
          cases he
          obtain ⟨w, r, rfl, ra, rb⟩ := hd.inv
          have := rb.inv0; subst this
          obtain ⟨u, hu, ru⟩ := hv.get hx
          exact ⟨p, vs, i, j, u, rfl, by rw [vr_int ra], hH, hb.1, hb.2, by rw [hv.length]; exact ixN_seq hj, hu, k _ _ ru (hv.eraseIdx j)⟩
        · cases he
      · cases he
    · cases he
  · cases he
include F
theorem me_app (ho : ME A X o mo) (ha : MA A X [e] mr) (hbase : PySem.attributeBase o "append" X.env (PySem.eval o X.env) = PySem.eval o X.env := by rfl)
    (hfew : ((PySem.backTo cpos (PySem.starEach [e] X.env)).all (fun x => !x.1) && (PySem.backToKw cpos (PySem.keywordEach [] X.env)).all (fun x => x.1.isSome)
      && decide ([e].length + ([] : List PySem.Keyword).length + (if ([] : List PySem.Keyword).isEmpty then 0 else 1) < 30)) = true := by rfl)
    (hline : (apos.endLine == cpos.line) = true := by rfl) (hs : PySem.starEach [e] X.env = (false, PySem.eval e X.env) :: PySem.starEach [] X.env := by rfl) : ME A X (.Call (.Attribute o "append" apos) [e] [] cpos) (mMut fApp mo mr) :=
  me_mut F PySem.F.slot_list_append PySem.F.type_list_append L2.mt_append pm_app ho ha hbase hfew hline hs rfl
theorem me_ext (ho : ME A X o mo) (ha : MA A X [e] mr) (hbase : PySem.attributeBase o "extend" X.env (PySem.eval o X.env) = PySem.eval o X.env := by rfl)
    (hfew : ((PySem.backTo cpos (PySem.starEach [e] X.env)).all (fun x => !x.1) && (PySem.backToKw cpos (PySem.keywordEach [] X.env)).all (fun x => x.1.isSome)
      && decide ([e].length + ([] : List PySem.Keyword).length + (if ([] : List PySem.Keyword).isEmpty then 0 else 1) < 30)) = true := by rfl)
    (hline : (apos.endLine == cpos.line) = true := by rfl) (hs : PySem.starEach [e] X.env = (false, PySem.eval e X.env) :: PySem.starEach [] X.env := by rfl) : ME A X (.Call (.Attribute o "extend" apos) [e] [] cpos) (mMut fExt mo mr) :=
  me_mut F PySem.F.slot_list_extend PySem.F.type_list_extend L2.mt_extend pm_ext ho ha hbase hfew hline hs rfl
theorem me_popAt (ho : ME A X o mo) (ha : MA A X [e] mr) (hbase : PySem.attributeBase o "pop" X.env (PySem.eval o X.env) = PySem.eval o X.env := by rfl)
    (hfew : ((PySem.backTo cpos (PySem.starEach [e] X.env)).all (fun x => !x.1) && (PySem.backToKw cpos (PySem.keywordEach [] X.env)).all (fun x => x.1.isSome)
      && decide ([e].length + ([] : List PySem.Keyword).length + (if ([] : List PySem.Keyword).isEmpty then 0 else 1) < 30)) = true := by rfl)
    (hline : (apos.endLine == cpos.line) = true := by rfl) (hs : PySem.starEach [e] X.env = (false, PySem.eval e X.env) :: PySem.starEach [] X.env := by rfl) : ME A X (.Call (.Attribute o "pop" apos) [e] [] cpos) (mMut fPopAt mo mr) :=
  me_mut F PySem.F.slot_list_pop PySem.F.type_list_pop L2.mt_popAt pm_popAt ho ha hbase hfew hline hs rfl
theorem me_pop (ho : ME A X o mo) (hbase : PySem.attributeBase o "pop" X.env (PySem.eval o X.env) = PySem.eval o X.env := by rfl) (hline : (apos.endLine == cpos.line) = true := by rfl) : ME A X (.Call (.Attribute o "pop" apos) [] [] cpos) (mMut fPop mo aNil) :=
  me_mut0 F PySem.F.slot_list_pop PySem.F.type_list_pop L2.mt_pop pm_pop ho hbase hline
end

def gSub (o i : TM) : TGm := fun d env M P => o env M (fun s M1 => i env M1 (fun t M2 => ∃ c n xs j, s = .ref c ∧ t = .int n ∧ M2[c]? = some (.lst xs) ∧ L2.ixN xs.length n = some j ∧ P env (M2.set c (.lst (xs.set j d)))) noX) noX
section
variable {A : Anc} {X : Cx} {o i : Expr} {mo mi : TM} {vs : List Nat} {pos : Pos}
theorem mg_sub (ho : ME A.nox X o mo) (hi : ME A.nox X i mi) (ha : ∀ v, PySem.assign (.Subscript o i pos) X.env v = (do
      let ov ← PySem.holding [v] (PySem.eval o X.env)
      let iv ← PySem.holding [v, ov] (PySem.eval i X.env)
      PySem.standAt pos
      PySem.holding [v, ov, iv] (PySem.setItem ov iv v)
      PySem.release [v, ov, iv] []) := by intro _; rfl) : MG A vs X (.Subscript o i pos) (gSub mo mi) := by
  refine pg_imp (L2.pg_sub ho hi L2.set_list ha) fun v σ H Q ⟨W, env, M, d, P, s, r, h, k⟩ => ?_
  refine ⟨W, env, M, _, s.nox, h, fun W1 s1d M1 v1 H1 s1 rm1 r1 h1 => ?_⟩
  have S1 := s.next s1 rm1
  refine ⟨W1, env, M1, _, S1.nox, h1, fun W2 t M2 v2 H2 s2 rm2 r2 ⟨c, n, xs, j, e1, e2, hc, hj, hp⟩ => ?_⟩
  subst e1 e2
  obtain ⟨q, us, rfl, hq, hF, hH, hv⟩ := cell_lst rm2 (VR.mono s2.le _ _ r1) hc
  refine ⟨q, us, n, j, rfl, vr_int r2, hH, by rw [hv.length]; exact hj, ?_⟩
  have st := s1.trans s2
  obtain ⟨a, b⟩ := rm2.put (c := .lst (xs.set j d)) (o := .lst (us.set j v)) hq hF ⟨hF, _, upd_same, hv.set (VR.mono st.le _ _ r) j⟩
  exact k W2 env _ _ _ (st.trans b) a (s.re.mono (st.trans b).le) rfl hp
end

/-- the classes of the program and their fields -/
def CT : List (Str × List Str) := [("Ratio", ["n", "d"]), ("Net", ["flips", "rank", "many"]), ("Ladder", ["points", "levels", "rank"]), ("Group", ["makers", "rank", "things", "words", "members"])]
def ctB (c f : Str) : Bool := match CT.lookup c with
  | some l => l.contains f
  | none => false
/-- what the written part says of the classes -/
def ClsT (G : Gd) : Prop := ∀ c f C, ctB c f = true → G.mg c = some (.ref C) → L2.Cls G.K C ∧ L2.NoAttr G.K C f
def fldL (f : Str) : List Str → List D → Option D
  | g :: gs, d :: ds => if f = g then some d else fldL f gs ds
  | _, _ => none
def fFld (f : Str) : D → List O → Option D := fun d M => match rd M d with
  | .ins c fs xs => if ctB c f = true then fldL f fs xs else none
  | _ => none
theorem VRs.fld {W : Wd} {f : Str} : ∀ {fs : List Str} {ds : List D} {vs : List V} {e : D}, VRs W ds vs → fldL f fs ds = some e → ∃ v, (fs.zip vs).lookup f = some v ∧ VR W e v
  | [], ds, vs, e, h, q => by simp [fldL] at q
  | g :: gs, [], vs, e, h, q => by simp [fldL] at q
  | g :: gs, d :: ds, vs, e, h, q => by
    obtain ⟨v, r, rfl, ra, rb⟩ := h.inv
    unfold fldL at q
    rw [List.zip_cons_cons, List.lookup_cons]
    split at q
    · rename_i hfg
      cases q
      subst hfg
      rw [beq_self_eq_true]
      exact ⟨v, rfl, ra⟩
    · rename_i hfg
      rw [beq_eq_false_iff_ne.mpr hfg]
      exact VRs.fld rb q
/-- the fields behind self.f = d -/
def putFs (f : Str) (d : D) : List Str → List D → List Str × List D
  | [], _ => ([f], [d])
  | g :: gs, [] => ([f], [d])
  | g :: gs, x :: xs => if g = f then (g :: gs, d :: xs) else (g :: (putFs f d gs xs).1, x :: (putFs f d gs xs).2)
theorem VRs.putF {W : Wd} {f : Str} {d : D} {v : V} (hd : VR W d v) : ∀ {fs : List Str} {ds : List D} {vs : List V}, fs.length = ds.length → VRs W ds vs →
    ∃ us, L2.putF f v (fs.zip vs) = (putFs f d fs ds).1.zip us ∧ VRs W (putFs f d fs ds).2 us ∧ (putFs f d fs ds).1.length = (putFs f d fs ds).2.length
  | [], ds, vs, hl, h => ⟨[v], rfl, .cons hd .nil, rfl⟩
  | g :: gs, [], vs, hl, h => by simp at hl
  | g :: gs, x :: xs, vs, hl, h => by
    obtain ⟨w, r, rfl, ra, rb⟩ := h.inv
    unfold putFs
    rw [List.zip_cons_cons]
    show ∃ us, (if g = f then (g, v) :: gs.zip r else (g, w) :: L2.putF f v (gs.zip r)) = _ ∧ _
    by_cases e : g = f
    · rw [if_pos e, if_pos e]
      exact ⟨v :: r, rfl, .cons hd rb, by simpa using hl⟩
    · rw [if_neg e, if_neg e]
      obtain ⟨us, h1, h2, h3⟩ := VRs.putF hd (by simpa using hl) rb
      exact ⟨w :: us, by rw [h1]; rfl, .cons ra h2, by simp [h3]⟩
def sFld (f : Str) (o v : TM) : TSm := fun env M K => v env M (fun d M1 => o env M1 (fun s M2 => ∃ a c fs xs, s = .ref a ∧ M2[a]? = some (.ins c fs xs) ∧ ctB c f = true ∧ fs.length < 1000 ∧
  K.nx env (M2.set a (.ins c (putFs f d fs xs).1 (putFs f d fs xs).2))) K.ex) K.ex
section
variable {G : Gd} {k : Nat} {N : List Str} {sc : PySem.Scope} {A : Anc} {X : Cx} (B : Ct G k N sc A X) (HC : ClsT G) {e o value : Expr} {f : Str} {ma mo mv : TM} {pos pos' : Pos}
include B HC
theorem k_fld (ha : ME A X e ma) (hb : PySem.attributeBase e f X.env (PySem.eval e X.env) = PySem.eval e X.env := by rfl) : ME A X (.Attribute e f pos) (m1 (fFld f) ma) := by
  refine me1 B.fit (r := fun x H1 Q => ∃ a C dx fs v, x = .ref a ∧ H1 a = some (.ins C dx fs) ∧ L2.Cls X.K C ∧ L2.NoAttr X.K C f ∧ fs.lookup f = some v ∧ Q v H1) (L2.pe_fld ha hb) ?_
  intro W M H d v e Q hK hm r h1 he k
  unfold fFld at he
  split at he
  · rename_i c fs xs hr
    split at he
    · rename_i hc
      obtain ⟨p, C, dx, vs, rfl, hC, hp, hl, t⟩ := rd_ins r h1 hr
      obtain ⟨u, hu, ru⟩ := t.fld he
      obtain ⟨c1, c2⟩ := HC c f C hc (by rw [← B.mg, ← hm]; exact hC)
      exact ⟨p, C, dx, _, u, rfl, hp, by rw [B.K]; exact c1, by rw [B.K]; exact c2, hu, k W u H .refl r ru⟩
    · cases he
  · cases he
theorem k_sfld (ho : ME A X o mo) (hv : ME A X value mv) (hs : PySem.swapsWith value (some (.Attribute o f pos')) pos.line X.env = pure false := by rfl) : MS A X (.Assign [.Attribute o f pos'] value pos) (sFld f mo mv) := by
  refine ps_imp (L2.ps_fld ho hv hs) fun D σ H ⟨W, env, M, K, s, h, hex, k1, k2⟩ => ?_
  refine ⟨W, env, M, _, s, xe (P := mv env M _) hex h, fun W1 d M1 v H1 s1 rm1 r1 h1 => ?_⟩
  have S1 := s.next s1 rm1
  refine ⟨W1, env, M1, _, S1, xe (P := mo env M1 _) hex h1, fun W2 sd M2 v2 H2 s2 rm2 r2 ⟨a, c, fs, xs, e1, hc, hct, hl, hp⟩ => ?_⟩
  subst e1
  obtain ⟨p, rfl, hq⟩ := vr_ref r2
  obtain ⟨hF, C, dx, vs, hC, hH, hlen, hvs⟩ := rm2.cell a _ p hc hq
  have S2 := S1.next s2 rm2
  obtain ⟨c1, c2⟩ := HC c f C hct (by rw [← B.mg, ← S2.mg B.fit]; exact hC)
  have st := s1.trans s2
  obtain ⟨us, h1', h2', h3'⟩ := VRs.putF (f := f) (VR.mono s2.le _ _ r1) hlen hvs
  refine ⟨p, C, dx, _, rfl, hH, by rw [B.K]; exact c1, by rw [B.K]; exact c2, by rw [List.length_zip]; omega, ?_⟩
  obtain ⟨a', b'⟩ := rm2.put (c := .ins c (putFs f d fs xs).1 (putFs f d fs xs).2) (o := .ins C dx (L2.putF f v (fs.zip vs))) hq hF ⟨hF, C, dx, us, hC, by rw [upd_same, h1'], h3', h2'⟩
  exact k1 W2 env _ _ _ (st.trans b') a' (s.re.mono (st.trans b').le) hp
end

def flD : D → Bool
  | .non => true
  | .bl _ => true
  | .int _ => true
  | .str _ => true
  | _ => false
def flV : D → V
  | .bl b => .bl b
  | .int b => .int b
  | .str b => .str b
  | _ => .non
theorem VR.fl {W : Wd} {d : D} {v : V} (h : VR W d v) (f : flD d = true) : v = flV d ∧ L2.flatV v = true := by
  cases d with
  | non => rw [vr_non h]; exact ⟨rfl, rfl⟩
  | bl b => rw [vr_bl h]; exact ⟨rfl, rfl⟩
  | int b => rw [vr_int h]; exact ⟨rfl, rfl⟩
  | str b => rw [vr_str h]; exact ⟨rfl, rfl⟩
  | _ => simp [flD] at f
theorem VRs.fl {W : Wd} : ∀ {ds : List D} {vs : List V}, VRs W ds vs → ds.all flD = true → vs = ds.map flV ∧ vs.all L2.flatV = true
  | [], vs, h, f => by rw [h.inv0]; exact ⟨rfl, rfl⟩
  | d :: ds, vs, h, f => by
    obtain ⟨v, r, rfl, a, b⟩ := h.inv
    rw [List.all_cons, Bool.and_eq_true] at f
    obtain ⟨e1, e2⟩ := a.fl f.1
    obtain ⟨e3, e4⟩ := VRs.fl b f.2
    exact ⟨by rw [e1, e3]; rfl, by rw [List.all_cons, e2, e4]; rfl⟩
def eqF (a b : D) : Bool := L2.eqV (flV a) (flV b)
def itemsD : D → Option (List D)
  | .lst xs => some xs
  | .tup xs => some xs
  | _ => none
theorem rd_items {W : Wd} {M : List O} {H : Hp} {d : D} {v : V} {xs : List D} (r : RelM W M H) (h : VR W d v) (e : itemsD (rd M d) = some xs) : ∃ p vs, v = .ref p ∧ (SqL W.K H p vs ∨ SqT W.K H p vs) ∧ VRs W xs vs := by
  cases hr : rd M d with
  | lst ys => rw [hr] at e; cases e; obtain ⟨p, vs, a, b, c⟩ := rd_lst r h hr; exact ⟨p, vs, a, .inl b, c⟩
  | tup ys => rw [hr] at e; cases e; obtain ⟨p, vs, a, b, c, _⟩ := rd_tup r h hr; exact ⟨p, vs, a, .inr b, c⟩
  | _ => rw [hr] at e; cases e
def fIn (neg : Bool) : D → D → List O → Option D := fun x y M => match itemsD (rd M y) with
  | some xs => if flD x = true ∧ xs.all flD = true then some (.bl (if neg then !xs.any (fun z => eqF z x) else xs.any fun z => eqF z x)) else none
  | none => none
theorem p_in {X : Cx} (neg : Bool) : Prim2 X (L2.rIn X.K neg) (fIn neg) := by
  intro W M H d d2 v v2 e Q hK hm r h1 h2 he k
  unfold fIn at he
  split at he
  · rename_i xs hr
    split at he
    · rename_i hf
      cases he
      obtain ⟨p, vs, rfl, s, t⟩ := rd_items r h2 hr
      obtain ⟨e1, e2⟩ := h1.fl hf.1
      obtain ⟨e3, e4⟩ := t.fl hf.2
      refine ⟨p, vs, rfl, hK ▸ s, e2, e4, k W _ H .refl r ?_⟩
      have : L2.inV v vs = xs.any fun z => eqF z d := by
        unfold L2.inV
        rw [e1, e3, List.any_map]
        rfl
      rw [this]
      exact VR.bl _
    · cases he
  · cases he
theorem c_in {X : Cx} : Cmp X .In (fIn false) := ⟨_, L2.op_in_seq, p_in false⟩
theorem c_nin {X : Cx} : Cmp X .NotIn (fIn true) := ⟨_, L2.op_notIn_seq, p_in true⟩
def fCatL : D → D → List O → Option (List D) := fun a b M => match rd M a, rd M b with
  | .lst xs, .lst ys => if xs.length + ys.length ≤ lim then some (xs ++ ys) else none
  | _, _ => none
def fRepL : D → D → List O → Option (List D) := fun a b M => match rd M a, b with
  | .lst xs, .int k => if -(2 ^ 63) ≤ k ∧ k < 2 ^ 63 ∧ xs.length * k.toNat ≤ lim then some (List.replicate k.toNat xs).flatten else none
  | _, _ => none
section
variable {A : Anc} {X : Cx} (F : Fit A X) {a b : Expr} {ma mb : TM} {pos : Pos}
include F
theorem ml_cat (ha : ME A X a ma) (hb : ME A X b mb) : ML A X (.BinOp a .Add b pos) (l2 fCatL ma mb) := by
  refine ml2 F (L2.pe_op L2.op_cat ha hb) ?_
  intro W M H d d2 v v2 e Q hK hm r h1 h2 he k
  unfold fCatL at he
  split at he
  · rename_i xs ys hx hy
    split at he
    · rename_i hl
      cases he
      obtain ⟨p, vs, rfl, s, t⟩ := rd_lstH r h1 hx
      obtain ⟨q, ws, rfl, s2, t2⟩ := rd_lstH r h2 hy
      refine ⟨p, q, vs, ws, rfl, rfl, s, s2, by rw [lim_eq, t.length, t2.length]; exact hl, fun p' hp' => ?_⟩
      obtain ⟨x1, x2, x3⟩ := lay_lst r hp' (t.append t2)
      exact k W p' _ x1 x2 x3 hp'
    · cases he
  · cases he
theorem ml_rep (ha : ME A X a ma) (hb : ME A X b mb) : ML A X (.BinOp a .Mult b pos) (l2 fRepL ma mb) := by
  refine ml2 F (L2.pe_op L2.op_rep ha hb) ?_
  intro W M H d d2 v v2 e Q hK hm r h1 h2 he k
  unfold fRepL at he
  split at he
  · rename_i xs n hx
    split at he
    · rename_i hl
      cases he
      obtain ⟨p, vs, rfl, s, t⟩ := rd_lstH r h1 hx
      refine ⟨p, n, vs, rfl, vr_int h2, s, hl.1, hl.2.1, by rw [lim_eq, t.length]; exact hl.2.2, fun p' hp' => ?_⟩
      obtain ⟨x1, x2, x3⟩ := lay_lst r hp' (t.rep n.toNat)
      exact k W p' _ x1 x2 x3 hp'
    · cases he
  · cases he
end

def rgOk (a b : Int) : Bool := decide (-(2 ^ 62) ≤ a) && decide (a < 2 ^ 62) && decide (-(2 ^ 62) ≤ b) && decide (b < 2 ^ 62) && decide ((b - a).toNat ≤ 2 ^ 24)
theorem rgOk_ok {a b : Int} (h : rgOk a b = true) : L2.RgOk a b := by
  unfold rgOk at h
  simp only [Bool.and_eq_true, decide_eq_true_eq] at h
  exact ⟨h.1.1.1.1, h.1.1.1.2, h.1.1.2, h.1.2, h.2⟩
/-- the ints from a below b -/
def lRg (a b : Int) : List D := rgD a (b - a).toNat
theorem VRs.rg {W : Wd} {a b : Int} : VRs W (lRg a b) (L2.rgV a b) := by
  have : ∀ l : List Nat, VRs W (l.map fun i : Nat => D.int (a + (i : Int))) (l.map fun i => V.int (a + (i : Nat))) := by
    intro l
    induction l with
    | nil => exact .nil
    | cons x l ih => exact .cons (VR.int _) ih
  exact this _
abbrev lR2 := Env → List O → (Int → Int → List O → Prop) → XQ → Prop
def r1 (a : TM) : lR2 := fun env M P E => a env M (fun d M1 => ∃ j : Int, d = .int j ∧ P 0 j M1) E
def r2 (a b : TM) : lR2 := fun env M P E => a env M (fun d M1 => b env M1 (fun e M2 => ∃ i j : Int, d = .int i ∧ e = .int j ∧ P i j M2) E) E
def lfr (A : Anc) (m : lR2) : St → Hp → (Int → Int → Hp → Prop) → Prop := fun σ H Q => ∃ W env M P, Sit A W env M σ H ∧ m env M P A.E ∧ ∀ W' a b M' H', Step W H W' H' → RelM W' M' H' → P a b M' → Q a b H'
abbrev MR (A : Anc) (X : Cx) (e : Expr) (m : lR2) : Prop := L2.PRg X e (lfr A m)
def lRange (m : lR2) : TL := fun env M P E => m env M (fun a b M1 => rgOk a b = true ∧ P (lRg a b) M1) E
def mRange (m : lR2) : TM := fun env M P E => m env M (fun a b M1 => rgOk a b = true ∧ P (.tup (lRg a b)) M1) E
section
variable {A : Anc} {X : Cx} (F : Fit A X) {a b e : Expr} {ma mb : TM} {m : lR2} {pos p : Pos}
theorem prg_imp {t t' : St → Hp → (Int → Int → Hp → Prop) → Prop} (h : L2.PRg X e t) (i : ∀ σ H Q, t' σ H Q → t σ H Q) : L2.PRg X e t' := fun pins s σ H Q I w => h pins s σ H Q I (i σ H Q w)
theorem mr_1 (hb : Blt X "range" (.type "range")) (ha : ME A X a ma) (na : PySem.starEach [a] X.env = (false, PySem.eval a X.env) :: PySem.starEach [] X.env := by rfl) : MR A X (.Call (.Name "range" p) [a] [] pos) (r1 ma) :=
  prg_imp (L2.prg_1 hb.1 hb.2.1 ha na) fun σ H Q ⟨W, env, M, P, s, h, k⟩ => ⟨W, env, M, _, s, h, fun W1 d M1 v H1 s1 rm1 rv ⟨j, e, hp⟩ => ⟨j, by subst e; exact vr_int rv, k W1 0 j M1 H1 s1 rm1 hp⟩⟩
theorem mr_2 (hb : Blt X "range" (.type "range")) (ha : ME A X a ma) (hbb : ME A X b mb) (na : PySem.starEach [a, b] X.env = (false, PySem.eval a X.env) :: PySem.starEach [b] X.env := by rfl)
    (nb : PySem.starEach [b] X.env = (false, PySem.eval b X.env) :: PySem.starEach [] X.env := by rfl) (hp : (PySem.backTo pos (PySem.starEach [b] X.env)).any (·.1) = false := by rfl) : MR A X (.Call (.Name "range" p) [a, b] [] pos) (r2 ma mb) :=
  prg_imp (L2.prg_2 hb.1 hb.2.1 ha hbb na nb hp) fun σ H Q ⟨W, env, M, P, s, h, k⟩ => ⟨W, env, M, _, s, h, fun W1 d M1 v H1 s1 rm1 rv h1 =>
    ⟨W1, env, M1, _, s.next s1 rm1, h1, fun W2 d2 M2 v2 H2 s2 rm2 rv2 ⟨i, j, e1, e2, hp⟩ => ⟨i, j, by subst e1; exact vr_int rv, by subst e2; exact vr_int rv2, k W2 i j M2 H2 (s1.trans s2) rm2 hp⟩⟩⟩
theorem ml_range (hc : X.calm = true) (hb : Blt X "list" (.type "list")) (he : MR A X e m) (na : PySem.starEach [e] X.env = (false, PySem.eval e X.env) :: PySem.starEach [] X.env := by rfl) : ML A X (.Call (.Name "list" p) [e] [] pos) (lRange m) := by
  refine pe_imp (L2.pe_listRg hc hb.1 hb.2.1 he na) fun σ H Q ⟨W, env, M, P, s, h, k⟩ => ⟨W, env, M, _, s, h, fun W1 a b M1 H1 s1 rm1 ⟨hr, hp⟩ => ⟨rgOk_ok hr, fun q hq => ?_⟩⟩
  obtain ⟨x1, x2, x3⟩ := lay_lst rm1 hq VRs.rg
  exact k W1 _ M1 q _ (s1.trans x1) x2 x3 (back_none s1 rm1 hq) hp
theorem me_range (hc : X.calm = true) (hb : Blt X "tuple" (.type "tuple")) (he : MR A X e m) (na : PySem.starEach [e] X.env = (false, PySem.eval e X.env) :: PySem.starEach [] X.env := by rfl) : ME A X (.Call (.Name "tuple" p) [e] [] pos) (mRange m) := by
  refine pe_imp (L2.pe_tupRg hc hb.1 hb.2.1 he na) fun σ H Q ⟨W, env, M, P, s, h, k⟩ => ⟨W, env, M, _, s, h, fun W1 a b M1 H1 s1 rm1 ⟨hr, hp⟩ => ⟨rgOk_ok hr, fun q hq => ?_⟩⟩
  obtain ⟨W', x1, x2, x3⟩ := lay_tup rm1 hq VRs.rg
  exact k W' _ M1 _ _ (s1.trans x1) x2 x3 hp
end
end Mi
end
section
set_option maxHeartbeats 4000000
namespace Mi
open PySem (Str Addr Value Expr Stmt Pos PyData)
open L2 (V Hp HO SqL SqT upd upd_same upd_ne Cx TE TT TA TS TG TI It PE PT PA PS PSs PG PI VK XK WX St Ends)

section
variable {G : Gd} {k : Nat} {N : List Str} {sc : PySem.Scope} {A : Anc} {X : Cx} (B : Ct G k N sc A X)
include B
theorem k_gint {x : Str} {i : Int} {pos : Pos} (hm : ∃ t, G.mg x = some (.int i t)) (hg : glB sc x = true) (hd : (x == ("__debug__" : Str)) = false := by decide) : ME A X (.Name x pos) (mCon (.int i)) := by
  obtain ⟨t, hm⟩ := hm
  exact me_con (L2.pe_glob (v := .int i) (B.gl hg) (by rw [B.mg]; exact hm) ⟨t, rfl⟩ hd) fun _ _ _ => VR.int _
theorem k_gstr {x z : Str} {pos : Pos} (hm : ∃ t, G.mg x = some (.str z t)) (hg : glB sc x = true) (hd : (x == ("__debug__" : Str)) = false := by decide) : ME A X (.Name x pos) (mCon (.str z)) := by
  obtain ⟨t, hm⟩ := hm
  exact me_con (L2.pe_glob (v := .str z) (B.gl hg) (by rw [B.mg]; exact hm) ⟨t, rfl⟩ hd) fun _ _ _ => VR.str _
theorem k_gl {x : Str} {pos : Pos} (hm : ∃ a, G.mg x = some (.ref a)) (hg : glB sc x = true) (hd : (x == ("__debug__" : Str)) = false := by decide) : ME A X (.Name x pos) (mCon (.gl x)) := by
  obtain ⟨a, hm⟩ := hm
  exact me_con (L2.pe_glob (v := .ref a) (B.gl hg) (by rw [B.mg]; exact hm) rfl hd) fun W h _ => by
    unfold VR
    exact ⟨a, rfl, by rw [h, B.fit.mg, B.mg]; exact hm⟩
end

inductive Ty where
  | non | bl | int | str | tup | lst | dic
  deriving DecidableEq
def Ty.s : Ty → String
  | .non => "NoneType"
  | .bl => "bool"
  | .int => "int"
  | .str => "str"
  | .tup => "tuple"
  | .lst => "list"
  | .dic => "dict"
/-- a value of the first is one of the second -/
def isTy : Ty → Ty → Bool
  | .bl, .int => true
  | a, b => decide (a = b)
/-- the classes told of -/
def clB (c : Str) : Bool := (CT.lookup c).isSome
/-- what is known of a class's object -/
structure IsC (K : PySem.W.Frag) (C : Addr) : Prop where
  cl : L2.Cls K C
  ha : PySem.W.findIn K (.ref C) "__class__" = some (some (.builtin "object.__class__"))
  hn : PySem.W.specialIn K (.builtin "object.__class__") "__get__" = some (some (.builtin "getset_descriptor.__get__"))
  htk : PySem.W.takesIn K (.builtin "object.__class__") = some true
  hm : PySem.W.mroIn K C (.type "object") = some true
  ct : ∀ T : Ty, PySem.W.kitOne K (.ref C) (.type T.s) = some false
  tc : ∀ T : Ty, PySem.W.kitOne K (.type T.s) (.ref C) = some false
structure IsT (G : Gd) : Prop where
  c : ∀ c C, clB c = true → G.mg c = some (.ref C) → IsC G.K C
  cc : ∀ c C c' C', clB c = true → G.mg c = some (.ref C) → clB c' = true → G.mg c' = some (.ref C') → PySem.W.kitOne G.K (.ref C) (.ref C') = some (c == c')
theorem kit_tt : ∀ a b : Ty, L2.kitB a.s b.s = some (isTy a b) := by
  intro a b
  cases a <;> cases b <;> decide +kernel
def tyD : D → Option Ty
  | .non => some .non
  | .bl _ => some .bl
  | .int _ => some .int
  | .str _ => some .str
  | .tup _ => some .tup
  | .lst _ => some .lst
  | .slst _ => some .lst
  | .dic _ _ => some .dic
  | _ => none
def fIsT (T : Ty) : D → List O → Option D := fun d M => match rd M d with
  | .ins c _ _ => if clB c = true then some (.bl false) else none
  | x => (tyD x).map fun a => .bl (isTy a T)
def fIsC (c' : Str) : D → List O → Option D := fun d M => match rd M d with
  | .ins c _ _ => if clB c = true ∧ clB c' = true then some (.bl (c == c')) else none
  | x => if clB c' = true then (tyD x).map fun _ => .bl false else none
theorem VR.ty {W : Wd} {M : List O} {H : Hp} {d : D} {v : V} {a : Ty} (rm : RelM W M H) (r : VR W d v) (e : tyD (rd M d) = some a) : L2.TyX W.K H v (.type a.s) := by
  cases hr : rd M d with
  | non =>
    rcases rd_cases (M := M) d with q | ⟨i, rfl⟩
    · rw [q] at hr; subst hr; rw [q] at e; cases e; rw [vr_non r]; exact .base .non
    · rw [rd_ref] at hr; unfold rdO at hr; split at hr <;> simp at hr
  | bl b =>
    rcases rd_cases (M := M) d with q | ⟨i, rfl⟩
    · rw [q] at hr; subst hr; rw [q] at e; cases e; rw [vr_bl r]; exact .base (.bl _)
    · rw [rd_ref] at hr; unfold rdO at hr; split at hr <;> simp at hr
  | int b => rw [hr] at e; cases e; rw [rd_int r hr]; exact .base (.int _)
  | str b => rw [hr] at e; cases e; rw [rd_str r hr]; exact .base (.str _)
  | tup xs =>
    rw [hr] at e; cases e
    rcases rd_cases (M := M) d with q | ⟨i, rfl⟩
    · rw [q] at hr; subst hr
      obtain ⟨p, vs, rfl, h, _⟩ := vr_tupF r
      exact .base (.tup (rm.sub _ _ h))
    · rw [rd_ref] at hr; unfold rdO at hr; split at hr <;> simp at hr
  | lst xs =>
    rw [hr] at e; cases e
    obtain ⟨p, vs, rfl, h, _⟩ := rd_lstH rm r hr
    exact .base (.lst h)
  | slst xs =>
    rw [hr] at e; cases e
    obtain ⟨p, vs, rfl, h, _⟩ := rd_ls rm r (by rw [hr]; rfl)
    rcases h with (h | ⟨o, h⟩) | ⟨o, its, n, hk, hc, _⟩
    · exact .base (.lst h)
    · exact .base (.frz h)
    · exact .kList hk hc
  | dic ks xs =>
    rw [hr] at e; cases e
    obtain ⟨p, o, vs, rfl, h, dd, _⟩ := rd_dic rm r hr
    cases ks with
    | k l => obtain ⟨_, rfl⟩ := dd; exact .base (.dK h)
    | t l => obtain ⟨_, rfl⟩ := dd; exact .base (.dT h)
  | _ => rw [hr] at e; cases e
theorem VR.tyC {G : Gd} (T : IsT G) {W : Wd} {M : List O} {H : Hp} {d : D} {v : V} {c : Str} {fs : List Str} {xs : List D} (hK : W.K = G.K) (hg : W.mg = G.mg) (rm : RelM W M H) (r : VR W d v) (e : rd M d = .ins c fs xs) (hc : clB c = true) :
    ∃ C, G.mg c = some (.ref C) ∧ L2.TyX W.K H v (.ref C) := by
  obtain ⟨p, C, dx, vs, rfl, hm, hp, _, _⟩ := rd_ins rm r e
  rw [hg] at hm
  have i := T.c c C hc hm
  exact ⟨C, hm, .base (.ins hp (by rw [hK]; exact i.cl) (by rw [hK]; exact i.ha) (by rw [hK]; exact i.hn) (by rw [hK]; exact i.htk) (by rw [hK]; exact i.hm))⟩
theorem lf_noE {A : Anc} {ma : TM} {σ : St} {H : Hp} {Q : VK} (h : lf A ma σ H Q) : lf A ma σ H Q := h
section
variable {G : Gd} {k : Nat} {N : List Str} {sc : PySem.Scope} {A : Anc} {X : Cx} (B : Ct G k N sc A X) (T : IsT G) {e : Expr} {ma : TM} {p q pos : Pos}
include B T
theorem k_isT {x : Str} (t : Ty) (hx : PySem.bootBuiltins x = some (.type t.s)) (hi : G.mg "isinstance" = none) (hgi : glB sc "isinstance" = true) (hmx : G.mg x = none) (hgx : glB sc x = true) (ha : ME A X e ma)
    (hn : x ≠ "__name__" := by decide) (hdb : (x == ("__debug__" : Str)) = false := by decide)
    (he : PySem.starEach [e, .Name x q] X.env = (false, PySem.eval e X.env) :: PySem.starEach [.Name x q] X.env := by rfl)
    (he2 : PySem.starEach [.Name x q] X.env = (false, PySem.eval (.Name x q) X.env) :: PySem.starEach [] X.env := by rfl) (hpl : (PySem.backTo pos (PySem.starEach [.Name x q] X.env)).any (·.1) = false := by rfl) :
    ME A X (.Call (.Name "isinstance" p) [e, .Name x q] [] pos) (m1 (fIsT t) ma) := by
  have hty : PE X (.Name x q) (L2.tC (.ty t.s)) := ⟨fun pins s σ H Q I h => L2.ld_blt I (B.gl hgx) (by rw [B.mg]; exact hmx) hx ⟨.ty t.s, H, I, rfl, h⟩ hn hdb⟩
  have hb := B.blt (v := .builtin "isinstance") hgi hi PyProof.Rows.boot_isinstance
  refine me1 B.fit (r := fun v H Q => L2.rIsi X.K [v, .ty t.s] H Q) (pe_imp (L2.pe_callB L2.call_isi hb.1 hb.2.1 hb.2.2 (L2.pa_cons ha (L2.pa_cons hty L2.pa_nil he2) he) (by decide) (by decide) he hpl) fun σ H Q h => h) ?_
  intro W M H d v e Q hK hm rm r1 he k
  have hKG : W.K = G.K := hK.trans B.K
  have hgG : W.mg = G.mg := hm.trans B.mg
  unfold fIsT at he
  split at he
  · rename_i c fs xs hr
    split at he
    · rename_i hc
      cases he
      obtain ⟨C, hC, ty⟩ := VR.tyC T hKG hgG rm r1 hr hc
      exact ⟨v, _, .ref C, .type t.s, false, rfl, .ty _, hK ▸ ty, by rw [B.K]; exact (T.c c C hc hC).ct t, k W _ H .refl rm (VR.bl _)⟩
    · cases he
  · obtain ⟨a, ha', rfl⟩ := Option.map_eq_some_iff.mp he
    exact ⟨v, _, .type a.s, .type t.s, isTy a t, rfl, .ty _, hK ▸ VR.ty rm r1 ha', L2.kit_ty (kit_tt a t), k W _ H .refl rm (VR.bl _)⟩
theorem k_isC {c' : Str} (hi : G.mg "isinstance" = none) (hgi : glB sc "isinstance" = true) (hmx : ∃ C, G.mg c' = some (.ref C)) (hgx : glB sc c' = true) (ha : ME A X e ma)
    (hdb : (c' == ("__debug__" : Str)) = false := by decide)
    (he : PySem.starEach [e, .Name c' q] X.env = (false, PySem.eval e X.env) :: PySem.starEach [.Name c' q] X.env := by rfl)
    (he2 : PySem.starEach [.Name c' q] X.env = (false, PySem.eval (.Name c' q) X.env) :: PySem.starEach [] X.env := by rfl) (hpl : (PySem.backTo pos (PySem.starEach [.Name c' q] X.env)).any (·.1) = false := by rfl) :
    ME A X (.Call (.Name "isinstance" p) [e, .Name c' q] [] pos) (m1 (fIsC c') ma) := by
  obtain ⟨C', hC'⟩ := hmx
  have hty : PE X (.Name c' q) (L2.tC (.ref C')) := L2.pe_glob (B.gl hgx) (by rw [B.mg]; exact hC') rfl hdb
  have hb := B.blt (v := .builtin "isinstance") hgi hi PyProof.Rows.boot_isinstance
  refine me1 B.fit (r := fun v H Q => L2.rIsi X.K [v, .ref C'] H Q) (pe_imp (L2.pe_callB L2.call_isi hb.1 hb.2.1 hb.2.2 (L2.pa_cons ha (L2.pa_cons hty L2.pa_nil he2) he) (by decide) (by decide) he hpl) fun σ H Q h => h) ?_
  intro W M H d v e Q hK hm rm r1 he k
  have hKG : W.K = G.K := hK.trans B.K
  have hgG : W.mg = G.mg := hm.trans B.mg
  unfold fIsC at he
  split at he
  · rename_i c fs xs hr
    split at he
    · rename_i hc
      cases he
      obtain ⟨C, hC, ty⟩ := VR.tyC T hKG hgG rm r1 hr hc.1
      exact ⟨v, _, .ref C, .ref C', _, rfl, .own _, hK ▸ ty, by rw [B.K]; exact T.cc c C c' C' hc.1 hC hc.2 hC', k W _ H .refl rm (VR.bl _)⟩
    · cases he
  · split at he
    · rename_i hc
      obtain ⟨a, ha', rfl⟩ := Option.map_eq_some_iff.mp he
      exact ⟨v, _, .type a.s, .ref C', false, rfl, .own _, hK ▸ VR.ty rm r1 ha', by rw [B.K]; exact (T.c c' C' hc hC').tc a, k W _ H .refl rm (VR.bl _)⟩
    · cases he
end

def enD : Nat → List D → List D
  | _, [] => []
  | n, d :: ds => .tup [.int n, d] :: enD (n + 1) ds
def zipD : List D → List D → List D
  | a :: as, b :: bs => .tup [a, b] :: zipD as bs
  | _, _ => []
theorem enD_len : ∀ {n : Nat} {ds : List D}, (enD n ds).length = ds.length
  | _, [] => rfl
  | n, d :: ds => by simp [enD, enD_len (n := n + 1) (ds := ds)]
theorem enD_get : ∀ {n i : Nat} {ds : List D} {d : D}, ds[i]? = some d → (enD n ds)[i]? = some (.tup [.int ((n + i : Nat) : Int), d])
  | n, i, [], d, h => by simp at h
  | n, 0, x :: ds, d, h => by simp at h; subst h; rfl
  | n, i + 1, x :: ds, d, h => by
    have := enD_get (n := n + 1) (i := i) (ds := ds) (d := d) (by simpa using h)
    unfold enD
    rw [List.getElem?_cons_succ, this]
    congr 4
    omega
theorem zipD_len : ∀ {as bs : List D}, (zipD as bs).length = min as.length bs.length
  | [], _ => by simp [zipD]
  | _ :: _, [] => by simp [zipD]
  | a :: as, b :: bs => by simp [zipD, zipD_len (as := as) (bs := bs)]
theorem zipD_get : ∀ {i : Nat} {as bs : List D} {a b : D}, as[i]? = some a → bs[i]? = some b → (zipD as bs)[i]? = some (.tup [a, b])
  | i, [], _, a, b, h, _ => by simp at h
  | i, _ :: _, [], a, b, _, h => by simp at h
  | 0, x :: as, y :: bs, a, b, h1, h2 => by simp at h1 h2; subst h1 h2; rfl
  | i + 1, x :: as, y :: bs, a, b, h1, h2 => by
    unfold zipD
    rw [List.getElem?_cons_succ]
    exact zipD_get (by simpa using h1) (by simpa using h2)
theorem items_enum {W : Wd} {K : PySem.W.Frag} {p : Addr} {vs : List V} {ds : List D} (hK : W.K = K) (s : SqL W.K W.F p vs) (t : VRs W ds vs) : Items W (L2.Ite K p) (enD 0 ds) := by
  subst hK
  intro W' M' H' le rm
  have sq : SqL W.K H' p vs := rm.sub.sqL (le.F.sqL s)
  refine ⟨fun i hi => ?_, ⟨vs, sq, by rw [enD_len, t.length]; exact Nat.le_refl _⟩⟩
  rw [enD_len] at hi
  obtain ⟨v, hv, rv⟩ := t.get (List.getElem?_eq_getElem hi)
  refine ⟨⟨vs, v, sq, hv⟩, fun x H'' ⟨T, y, e1, hT, e2, h3⟩ => ?_⟩
  have hy := h3 vs sq
  rw [hv] at hy; cases hy
  subst e1 e2
  obtain ⟨W2, a, b, c⟩ := lay_tup (xs := [.int (i : Nat), ds[i]]) rm hT (.cons (VR.int _) (.cons (VR.mono le _ _ rv) .nil))
  refine ⟨W2, _, ?_, a, b, c⟩
  have := enD_get (n := 0) (List.getElem?_eq_getElem hi)
  rw [this]; simp
theorem items_zipL {W : Wd} {K : PySem.W.Frag} {p q : Addr} {vs ws : List V} {ds es : List D} (hK : W.K = K) (s : SqL W.K W.F p vs) (t : VRs W ds vs) (s2 : SqL W.K W.F q ws) (t2 : VRs W es ws) : Items W (L2.Itz K p q) (zipD ds es) := by
  subst hK
  intro W' M' H' le rm
  have sq : SqL W.K H' p vs := rm.sub.sqL (le.F.sqL s)
  have sq2 : SqL W.K H' q ws := rm.sub.sqL (le.F.sqL s2)
  refine ⟨fun i hi => ?_, ⟨vs, ws, sq, sq2, by rw [zipD_len, t.length, t2.length]; omega⟩⟩
  rw [zipD_len] at hi
  have h1 : i < ds.length := by omega
  have h2 : i < es.length := by omega
  obtain ⟨v, hv, rv⟩ := t.get (List.getElem?_eq_getElem h1)
  obtain ⟨w, hw, rw'⟩ := t2.get (List.getElem?_eq_getElem h2)
  refine ⟨⟨vs, ws, v, w, sq, sq2, hv, hw⟩, fun x H'' ⟨T, y, z, e1, hT, e2, h3, h4⟩ => ?_⟩
  have hy := h3 vs sq
  rw [hv] at hy; cases hy
  have hz := h4 ws sq2
  rw [hw] at hz; cases hz
  subst e1 e2
  obtain ⟨W2, a, b, c⟩ := lay_tup (xs := [ds[i], es[i]]) rm hT (.cons (VR.mono le _ _ rv) (.cons (VR.mono le _ _ rw') .nil))
  exact ⟨W2, _, zipD_get (List.getElem?_eq_getElem h1) (List.getElem?_eq_getElem h2), a, b, c⟩
theorem items_zipT {W : Wd} {K : PySem.W.Frag} {p q : Addr} {vs ws : List V} {ds es : List D} (hK : W.K = K) (s : SqT W.K W.F p vs) (t : VRs W ds vs) (s2 : SqT W.K W.F q ws) (t2 : VRs W es ws) : Items W (RZ.ItzT K p q) (zipD ds es) := by
  subst hK
  intro W' M' H' le rm
  have sq : SqT W.K H' p vs := rm.sub.sqT (le.F.sqT s)
  have sq2 : SqT W.K H' q ws := rm.sub.sqT (le.F.sqT s2)
  refine ⟨fun i hi => ?_, ⟨vs, ws, sq, sq2, by rw [zipD_len, t.length, t2.length]; omega⟩⟩
  rw [zipD_len] at hi
  have h1 : i < ds.length := by omega
  have h2 : i < es.length := by omega
  obtain ⟨v, hv, rv⟩ := t.get (List.getElem?_eq_getElem h1)
  obtain ⟨w, hw, rw'⟩ := t2.get (List.getElem?_eq_getElem h2)
  refine ⟨⟨vs, ws, v, w, sq, sq2, hv, hw⟩, fun x H'' ⟨T, y, z, e1, hT, e2, h3, h4⟩ => ?_⟩
  have hy := h3 vs sq
  rw [hv] at hy; cases hy
  have hz := h4 ws sq2
  rw [hw] at hz; cases hz
  subst e1 e2
  obtain ⟨W2, a, b, c⟩ := lay_tup (xs := [ds[i], es[i]]) rm hT (.cons (VR.mono le _ _ rv) (.cons (VR.mono le _ _ rw') .nil))
  exact ⟨W2, _, zipD_get (List.getElem?_eq_getElem h1) (List.getElem?_eq_getElem h2), a, b, c⟩
/-- enumerate of a list that stays -/
def iEnL (m : TM) : TL := fun env M P E => m env M (fun d M1 => ∃ xs, d = .lst xs ∧ P (enD 0 xs) M1) E
def iZip (a b : TM) : TL := fun env M P E => a env M (fun d M1 => b env M1 (fun e M2 => ∃ xs ys, ((d = .lst xs ∧ e = .lst ys) ∨ (d = .tup xs ∧ e = .tup ys)) ∧ P (zipD xs ys) M2) E) E
section
variable {A : Anc} {X : Cx} (F : Fit A X) {a b : Expr} {ma mb : TM} {pos p tpos : Pos} {elts : List Expr} {kk : Nat}
include F
theorem mi_enL (hb : Blt X "enumerate" (.type "enumerate")) (ha : ME A X a ma) (hs : PySem.starEach [a] X.env = [(false, PySem.eval a X.env)] := by rfl) : MI A X (.Tuple elts kk tpos) (.Call (.Name "enumerate" p) [a] [] pos) (iEnL ma) := by
  refine pi_imp (L2.pi_enum hb.1 hb.2.1 (L2.pa_cons ha L2.pa_nil hs) hs) fun σ H R ⟨W, env, M, P, s, h, k⟩ => ⟨W, env, M, _, s, h, fun W1 d M1 v H1 s1 rm1 r1 ⟨xs, e, hp⟩ => ?_⟩
  subst e
  obtain ⟨q, vs, rfl, hq, t⟩ := vr_lst r1
  have K1 : W1.K = X.K := (s.next s1 rm1).K F
  exact ⟨q, vs, rfl, K1 ▸ rm1.sub.sqL hq, k W1 _ M1 H1 _ s1 rm1 (items_enum K1 hq t) hp⟩
theorem mi_zip (hb : Blt X "zip" (.type "zip")) (ha : ME A X a ma) (hbb : ME A X b mb) (hs : PySem.starEach [a, b] X.env = (false, PySem.eval a X.env) :: PySem.starEach [b] X.env := by rfl)
    (hs2 : PySem.starEach [b] X.env = (false, PySem.eval b X.env) :: PySem.starEach [] X.env := by rfl) (hpl : (PySem.backTo pos (PySem.starEach [b] X.env)).any (·.1) = false := by rfl) :
    MI A X (.Tuple elts kk tpos) (.Call (.Name "zip" p) [a, b] [] pos) (iZip ma mb) := by
  refine pi_imp (RZ.pi_zipA hb.1 hb.2.1 (L2.pa_cons ha (L2.pa_cons hbb L2.pa_nil hs2) hs) hs hpl) fun σ H R ⟨W, env, M, P, s, h, k⟩ => ⟨W, env, M, _, s, h, fun W1 d M1 v H1 s1 rm1 r1 h1 => ?_⟩
  have S1 := s.next s1 rm1
  refine ⟨W1, env, M1, _, S1, h1, fun W2 d2 M2 v2 H2 s2 rm2 r2 ⟨xs, ys, hd, hp⟩ => ?_⟩
  have K2 : W2.K = X.K := (S1.next s2 rm2).K F
  rcases hd with ⟨rfl, rfl⟩ | ⟨rfl, rfl⟩
  · obtain ⟨q, vs, rfl, hq, t⟩ := vr_lst (VR.mono s2.le _ _ r1)
    obtain ⟨q2, ws, rfl, hq2, t2⟩ := vr_lst r2
    exact ⟨q, q2, vs, ws, rfl, .inl ⟨K2 ▸ rm2.sub.sqL hq, K2 ▸ rm2.sub.sqL hq2, k W2 _ M2 H2 _ (s1.trans s2) rm2 (items_zipL K2 hq t hq2 t2) hp⟩⟩
  · obtain ⟨q, vs, rfl, hq, t⟩ := vr_tup (VR.mono s2.le _ _ r1)
    obtain ⟨q2, ws, rfl, hq2, t2⟩ := vr_tup r2
    exact ⟨q, q2, vs, ws, rfl, .inr ⟨K2 ▸ rm2.sub.sqT hq, K2 ▸ rm2.sub.sqT hq2, k W2 _ M2 H2 _ (s1.trans s2) rm2 (items_zipT K2 hq t hq2 t2) hp⟩⟩
end
end Mi
end
section
set_option maxHeartbeats 4000000
namespace Mi
open PySem PySem.Spec PyProof.Rows
open Sem (wp)
theorem meets_enum1 {v : Value} {o : Obj} {H : Heap → Prop} (B : Begins v o H) :
    Meets (Builtin.«enumerate.__new__» ⟨[.type "enumerate", v], []⟩) (fun _ R s => H s.heap ∧
      R (.ok (.ret (.ref (s.heap.push o).objs.size))) { s with heap := (s.heap.push o).push { cls := .type "enumerate", data := .fields #[.none, .bool false, .ref s.heap.objs.size, rawInt 0, .none, .none] } }) :=
  .of_wp fun prog w A R s h => by
    obtain ⟨hp, g, d, tk, os⟩ := s; obtain ⟨h1, h⟩ := h
    have hsub := sub_enumerate
    have q1 : ∀ {A' : Around} {E : Value → Shared → Prop} {Q : Value → Shared → Prop}, Q (.ref hp.objs.size) ⟨hp.push o, g, d, tk, os⟩ → wpAny (model prog w) A' (pyIter v) Q E ⟨hp, g, d, tk, os⟩ :=
      fun q => B.iter prog w _ _ ⟨hp, g, d, tk, os⟩ _ h1 q
    wp_walk using q1
    refine wpAny_stack_any fun st => wpAny_pure ?_
    split
    · rename_i c _ _ _ _ _
      cases (c == Value.type "enumerate")
      · wp_walk using q1
        exact ⟨_, rfl, h⟩
      · wp_walk using q1
        exact ⟨_, rfl, h⟩
    · wp_walk using q1
      exact ⟨_, rfl, h⟩
theorem enum1_begins {prog : Program} {w : World} {A : Around} {E : Value → Shared → Prop} {s : Shared} {v : Value} {o : Obj} {H : Heap → Prop} {Q : Value → Shared → Prop} (B : Begins v o H) (h1 : H s.heap)
    (h : ∀ h', IsEnum h' (s.heap.objs.size + 1) s.heap.objs.size 0 .none → h'.get? s.heap.objs.size = some o → h'.objs.size = s.heap.objs.size + 2 →
      (∀ b o, s.heap.get? b = some o → h'.get? b = some o) → Q (.ref (s.heap.objs.size + 1)) { s with heap := h' }) :
    wpAny (model prog w) A (call (.type "enumerate") [v]) Q E s := by
  refine callType_new F.called_enumerate (by decide) (F.typeCall_enumerate_1 _) (F.newCall_enumerate_1 _) (fun obj => F.args_object_init_2 obj _) F.entry_enumerate_new
    (meets_enum1 B) ⟨h1, ?_⟩
  have hz : (s.heap.push o).objs.size = s.heap.objs.size + 1 := Heap.size_push ..
  show _ ∧ _
  rw [hz]
  have he : IsEnum ((s.heap.push o).push { cls := .type "enumerate", data := .fields #[.none, .bool false, .ref s.heap.objs.size, rawInt 0, .none, .none] }) (s.heap.objs.size + 1) s.heap.objs.size 0 .none := by
    have := Heap.get?_push_size (s.heap.push o) (o := { cls := .type "enumerate", data := .fields #[.none, .bool false, .ref s.heap.objs.size, rawInt 0, .none, .none] }) rfl
    rw [hz] at this; exact this
  exact ⟨⟨_, he, rfl⟩, h _ he (Heap.get?_push_of_some _ (Heap.get?_push_size _ B.free)) (by rw [Heap.size_push, hz]) fun b o x => Heap.get?_push_of_some _ (Heap.get?_push_of_some _ x)⟩
open L2 (V Hp HO SqL SqT upd upd_same upd_ne Cx It Turn PI TI TE PE Inv ObjOk EP RelV Vals)
/-- the tuple at a, each item in a new pair -/
def IteT (K : PySem.W.Frag) (a : Addr) : It :=
  ⟨fun i H => ∃ (xs : List V) (x : V), SqT K H a xs ∧ xs[i]? = some x, fun i H v H' => ∃ T x, v = .ref T ∧ H T = none ∧ H' = upd H T (.tup [.int (i : Nat), x]) ∧ ∀ xs, SqT K H a xs → xs[i]? = some x, fun i H => ∃ xs : List V, SqT K H a xs ∧ xs.length = i⟩
theorem turn_enumT {P : Program} {w : World} {K : PySem.W.Frag} {elts : List Expr} {kk : Nat} {tpos : Pos} (a e it : Addr) :
    Turn P w K (.Tuple elts kk tpos) (IteT K a) [e, it] e (fun i h => (∃ old, IsEnum h e it ((i : Nat) : Int) old) ∧ h.IsTupleIter it a i ∧ e ≠ it) where
  mem := by simp
  obj := fun i h st b hb => by
    obtain ⟨⟨old, he⟩, ⟨o, ho, hc, hd⟩, _⟩ := st
    have e' : b = e ∨ b = it := by simpa using hb
    rcases e' with z | z
    · rw [z]; exact ⟨_, he, fun v q => nomatch q⟩
    · rw [z]; exact ⟨o, ho, fun v q => by rw [hd] at q; cases q⟩
  keep := fun i h h' st k => let ⟨⟨old, he⟩, hi, hne⟩ := st; ⟨⟨old, k e (by simp) _ he⟩, hi.at fun o q => k it (by simp) o q, hne⟩
  item := by
    intro X hP hw hK hc i pins s σ H E I hf st hg
    subst hP hw hK
    obtain ⟨⟨old, he⟩, hit, hne⟩ := st
    obtain ⟨xs, x, hq, hx⟩ := hg
    obtain ⟨its, rv, p, hz⟩ := I.tuple hq
    obtain ⟨u, hu, ru⟩ := rv.get hx
    have hel : e < s.heap.objs.size := Heap.lt_size he
    have hil : it < s.heap.objs.size := by obtain ⟨_, q, _⟩ := hit; exact Heap.lt_size q
    obtain ⟨op, hop, hopc, np, hopd⟩ := (show s.heap.IsTuple a its.toArray from p)
    have hai : a ≠ it := by
      rintro rfl
      obtain ⟨o2, q2, c2, _⟩ := hit
      rw [hop] at q2; cases q2
      rw [hopc] at c2; simp at c2
    have hae : a ≠ e := by
      rintro rfl
      rw [he] at hop; cases hop
      simp at hopc
    have D := Draws.tuple (prog := X.prog) (w := X.w) (A := X.A.in1) (I.ok.hd hc) it a hai its.toArray
    have hlt : i < its.toArray.size := by
      have := (List.getElem?_eq_some_iff.mp hu).1
      simpa using this
    refine wpAny_pyNext_enum_itemC D he ⟨hit, p⟩ hlt hne (by simp; exact ⟨hne, hae.symm⟩) fun y h' tk hP ho hit' hT hsz hk => ?_
    have hy : its.toArray[i]? = some y := hP
    have ey : y = u := by
      rw [List.getElem?_toArray] at hy
      rw [hu] at hy; cases hy; rfl
    subst ey
    refine ⟨_, rfl, wpAny_letOwnedTupleGo_enum (s := { s with heap := h', toks := tk + 1 }) ho fun h'' he' sb => ?_⟩
    have hT2 : h''.get? s.heap.objs.size = some { cls := .type "tuple", data := .seq #[.int i tk, y] } := (sb.2 _ (Nat.ne_of_gt hel)).trans hT
    have new : ObjOk X.prog X.w (upd H s.heap.objs.size (.tup [.int (i : Nat), x])) h'' s.heap.objs.size (.tup [.int (i : Nat), x]) :=
      ⟨by show 2 ≤ sizeLine; decide, [.int i tk, y], .cons ⟨_, rfl⟩ (.cons ru .nil), ⟨_, hT2, rfl, _, rfl⟩⟩
    have I1 : Inv X pins σ (upd H s.heap.objs.size (.tup [.int (i : Nat), x])) { s with heap := h'', toks := tk + 1 } :=
      I.turnedNew (ch := [e, it]) (fun b ob hb q => (sb.2 b (fun z => hb (by simp [z]))).trans (hk b ob (fun z => hb (by simp [z])) (fun z => hb (by simp [z])) q)) hf (Nat.le_refl _) new
    refine ⟨.ref s.heap.objs.size, _, I1, rfl, ⟨_, x, rfl, I.hok.fresh (Nat.le_refl _), rfl, fun ys hy => by rw [I.tuple_inj hy hq]; exact hx⟩, ⟨⟨y, ?_⟩, hit'.1.at fun o q => (sb.2 it (Ne.symm hne)).trans q, hne⟩, fun b hb => ?_⟩
    · have e1 : ((i + 1 : Nat) : Int) = (i : Int) + 1 := by omega
      rw [e1]; exact he'
    · have hb' : b < s.heap.objs.size := by
        have e' : b = e ∨ b = it := by simpa using hb
        rcases e' with z | z
        · rw [z]; exact hel
        · rw [z]; exact hil
      rw [upd_ne (Nat.ne_of_lt hb')]
      exact (hf b hb).1
  done := by
    intro X hP hw hK hc i pins s σ H E I hf st hg
    subst hP hw hK
    obtain ⟨⟨old, he⟩, hit, hne⟩ := st
    obtain ⟨xs, hq, hx⟩ := hg
    obtain ⟨its, rv, p, hz⟩ := I.tuple hq
    obtain ⟨f0, f1, f2, f3, f4, f5⟩ := hf it (by simp)
    have hl := rv.length
    obtain ⟨op, hop, hopc, np, hopd⟩ := (show s.heap.IsTuple a its.toArray from p)
    have hai : a ≠ it := by
      rintro rfl
      obtain ⟨o2, q2, c2, _⟩ := hit
      rw [hop] at q2; cases q2
      rw [hopc] at c2; simp at c2
    have D := Draws.tuple (prog := X.prog) (w := X.w) (A := X.A.in1) (I.ok.hd hc) it a hai its.toArray
    have hi : i = its.toArray.size := by simp [← hx, hl]
    subst hi
    exact wpAny_pyNext_enum_endD D he ⟨hit, p⟩ fun h' eb => ⟨rfl, I.turned (t' := s.toks) (fun b o hb q => eb b o hb q) f0 f1 f3 f4 f5⟩
  self := fun A i s Q E st h => let ⟨⟨_, he⟩, _⟩ := st; wpAny_pyIter_enum he h
def iEnumT (K : PySem.W.Frag) (ta : L2.TA) : TI := fun σ H R => ta σ H fun vs H1 => ∃ a xs, vs = [.ref a] ∧ SqT K H1 a xs ∧ R (IteT K a) H1
theorem pi_enumT {X : Cx} {e : Expr} {ta : L2.TA} {p pos tpos : Pos} {elts : List Expr} {kk : Nat} (hg : L2.Gl X "enumerate") (hm : X.mg "enumerate" = none) (ha : L2.PA X [e] ta) (hs : starEach [e] X.env = [(false, eval e X.env)] := by rfl) :
    PI X (.Tuple elts kk tpos) (.Call (.Name "enumerate" p) [e] [] pos) (iEnumT X.K ta) := by
  refine ⟨fun pins s σ H R I h => ?_⟩
  refine Call_ (L2.ld_blt I hg hm boot_enumerate (PyProof.Rows.callWith_type1 (L2.thn (ha.run pos pins s σ H _ I h) fun us s1 ⟨vs, H1, I1, r1, q1⟩ => ?_) hs rfl))
  obtain ⟨a, xs, ex, hq, q⟩ := q1
  subst ex
  cases r1 with
  | cons r rr =>
    cases rr
    cases r
    obtain ⟨its, rv, p', hz⟩ := I1.tuple hq
    refine enum1_begins (begins_tuple a its.toArray) p' fun h' he hit hsz hk => wpAny_pyIter_enum he ?_
    have I2 : Inv X pins σ H1 { s1 with heap := h' } := I1.kept (t' := s1.toks) hk
    refine ⟨s1.heap.objs.size + 1, [s1.heap.objs.size + 1, s1.heap.objs.size], _, _, H1, rfl, I2, turn_enumT a (s1.heap.objs.size + 1) s1.heap.objs.size, ⟨⟨.none, he⟩, ⟨_, hit, rfl, rfl⟩, Nat.succ_ne_self _⟩, fun b hb => ?_, q⟩
    have e' : b = s1.heap.objs.size + 1 ∨ b = s1.heap.objs.size := by simpa using hb
    have hle : s1.heap.objs.size ≤ b := by
      rcases e' with z | z
      · rw [z]; exact Nat.le_add_right _ _
      · rw [z]; exact Nat.le_refl _
    exact I1.fpOk hle (I1.hok.fresh hle)
theorem items_enumT {W : Wd} {K : PySem.W.Frag} {p : Addr} {vs : List V} {ds : List D} (hK : W.K = K) (s : SqT W.K W.F p vs) (t : VRs W ds vs) : Items W (IteT K p) (enD 0 ds) := by
  subst hK
  intro W' M' H' le rm
  have sq : SqT W.K H' p vs := rm.sub.sqT (le.F.sqT s)
  refine ⟨fun i hi => ?_, ⟨vs, sq, by rw [enD_len, t.length]⟩⟩
  rw [enD_len] at hi
  obtain ⟨v, hv, rv⟩ := t.get (List.getElem?_eq_getElem hi)
  refine ⟨⟨vs, v, sq, hv⟩, fun x H'' ⟨T, y, e1, hT, e2, h3⟩ => ?_⟩
  have hy := h3 vs sq
  rw [hv] at hy; cases hy
  subst e1 e2
  obtain ⟨W2, a, b, c⟩ := lay_tup (xs := [.int (i : Nat), ds[i]]) rm hT (.cons (VR.int _) (.cons (VR.mono le _ _ rv) .nil))
  refine ⟨W2, _, ?_, a, b, c⟩
  have := enD_get (n := 0) (List.getElem?_eq_getElem hi)
  rw [this]; simp
/-- enumerate of a tuple -/
def iEnTu (m : TM) : TL := fun env M P E => m env M (fun d M1 => ∃ xs, d = .tup xs ∧ P (enD 0 xs) M1) E
theorem mi_enT {A : Anc} {X : Cx} (F : Fit A X) {a : Expr} {ma : TM} {pos p tpos : Pos} {elts : List Expr} {kk : Nat} (hb : Blt X "enumerate" (.type "enumerate")) (ha : ME A X a ma) (hs : starEach [a] X.env = [(false, eval a X.env)] := by rfl) :
    MI A X (.Tuple elts kk tpos) (.Call (.Name "enumerate" p) [a] [] pos) (iEnTu ma) := by
  refine pi_imp (pi_enumT hb.1 hb.2.1 (L2.pa_cons ha L2.pa_nil hs) hs) fun σ H R ⟨W, env, M, P, s, h, k⟩ => ⟨W, env, M, _, s, h, fun W1 d M1 v H1 s1 rm1 r1 ⟨xs, e, hp⟩ => ?_⟩
  subst e
  obtain ⟨q, vs, rfl, hq, t⟩ := vr_tup r1
  have K1 : W1.K = X.K := (s.next s1 rm1).K F
  exact ⟨q, vs, rfl, K1 ▸ rm1.sub.sqT hq, k W1 _ M1 H1 _ s1 rm1 (items_enumT K1 hq t) hp⟩
end Mi
end
section
set_option maxHeartbeats 4000000
namespace Mi
open PySem PySem.Spec PyProof.Rows HT
section
variable {prog : Program} {w : World} {A : Around} {E : Value → Shared → Prop} {s : Shared}
theorem pick_rev (xs : List Value) : ((List.range xs.length).filterMap fun (m : Nat) => xs.toArray[((xs.length : Int) - 1 + (m : Int) * (-1)).toNat]?) = xs.reverse := by
  have key : ∀ k, k ≤ xs.length → ((List.range k).filterMap fun (m : Nat) => xs.toArray[((xs.length : Int) - 1 + (m : Int) * (-1)).toNat]?) = xs.reverse.take k := by
    intro k
    induction k with
    | zero => intro _; rfl
    | succ k ih =>
      intro hk
      rw [List.range_succ, List.filterMap_append, ih (by omega), List.take_add_one]
      congr 1
      have e : ((xs.length : Int) - 1 + (k : Int) * (-1)).toNat = xs.length - 1 - k := by omega
      have h1 : xs.length - 1 - k < xs.length := by omega
      simp only [List.filterMap_cons, List.filterMap_nil, e]
      rw [List.getElem?_toArray, List.getElem?_eq_getElem h1, List.getElem?_reverse (by omega), List.getElem?_eq_getElem h1]
      rfl
  rw [key _ (Nat.le_refl _), List.take_of_length_le (by simp)]
theorem sliceApplied_rev {sl : Addr} {t : Tok} {n : Nat} {Q : Int × Int × Nat → Shared → Prop} (hs : s.heap.IsSliceOf sl .none .none (.int (-1) t))
    (h : Q ((n : Int) - 1, -1, n) s) : wpAny (model prog w) A (Builtin.Slice.sliceApplied (.ref sl) (pure (n : Int))) Q E s := by
  obtain ⟨os, hos, hcs, hds⟩ := id hs
  unfold Builtin.Slice.sliceApplied Builtin.Slice.sliceFields
  refine wpAny_bind (wpAny_bind (wpAny_field hos hds (x := .none) rfl (wpAny_bind (wpAny_field hos hds (x := .none) rfl (wpAny_bind (wpAny_field hos hds (x := .int (-1) t) rfl (wpAny_pure ?_)))))))
  refine wpAny_bind (slicePart_int ?_)
  show wpAny _ _ (if ((-1 : Int) == 0) = true then _ else _) _ _ s
  rw [if_neg (by decide)]
  refine wpAny_bind (slicePart_none (wpAny_bind (slicePart_none (wpAny_bind (wpAny_pure ?_)))))
  have e1 : Builtin.Slice.sliceAdjust none none (-1) (n : Int) = ((n : Int) - 1, -1) := by
    unfold Builtin.Slice.sliceAdjust
    simp
  show wpAny _ _ (match Builtin.Slice.sliceAdjust none none (-1) (n : Int) with | (lo, hi) => pure (lo, (-1 : Int), Builtin.Slice.slicePlaces lo hi (-1))) _ _ s
  rw [e1]
  have e2 : Builtin.Slice.slicePlaces ((n : Int) - 1) (-1) (-1) = n := by
    unfold Builtin.Slice.slicePlaces
    simp only [show ¬ ((-1 : Int) > 0) by omega, if_false]
    split <;> simp <;> omega
  show wpAny _ _ (pure ((n : Int) - 1, (-1 : Int), Builtin.Slice.slicePlaces ((n : Int) - 1) (-1) (-1))) _ _ s
  rw [e2]
  exact wpAny_pure h
theorem getItem_tuple_rev {t sl : Addr} {its : List Value} {tk : Tok} {Q : Value → Shared → Prop} (ht : IsTup s.heap t its.toArray) (hs : s.heap.IsSliceOf sl .none .none (.int (-1) tk))
    (h : Q (.ref s.heap.objs.size) { s with heap := s.heap.push { cls := .type "tuple", data := .seq its.reverse.toArray } }) (hsz : its.length ≤ sizeLine) : wpAny (model prog w) A (getItem (.ref t) (.ref sl)) Q E s := by
  have htake : sizeOk (.seq its.reverse.toArray) := by
    show its.reverse.toArray.size ≤ sizeLine
    simpa using hsz
  obtain ⟨os, hos, hcs, hds⟩ := id hs
  have hTs : s.TypeIs (.ref sl) "slice" := ⟨os, hos, hcs⟩
  unfold getItem
  try with_reducible refine wpAny_holding ?_
  first | refine wpAny_bind (wpAny_pure ?_) | skip
  refine wpAny_bind (wpAny_sequenceKey ht.typeIs (by decide) ?_)
  refine wpAny_bind (wpAny_callSpecial?_slot (name := Str.ofString "__getitem__") ht.typeIs PyProof.Rows.slot_tuple_getitem
    (wpAny_call_entry PyProof.Rows.slot_tuple_getitem ht.typeIs entry_tuple_getitem ?_ (args_tuple_getitem _ _)))
  show wpAny _ _ (Builtin.Tuple.tupleItemsOf (.ref t) >>= _) _ _ s
  refine wpAny_bind (tupleItemsOf_ ht ?_)
  refine wpAny_bind (wpAny_typeOf hTs ?_)
  rw [if_pos (by decide)]
  refine wpAny_bind (sliceApplied_rev hs ?_)
  show wpAny _ _ (if ((((its.toArray.size : Nat) : Int) - 1) == 0 && (-1 : Int) == 1 && its.toArray.size == its.toArray.size) = true then _ else _) _ _ s
  rw [if_neg (by simp)]
  have e : ((List.range its.toArray.size).filterMap fun (m : Nat) => its.toArray[(((its.toArray.size : Nat) : Int) - 1 + (m : Int) * (-1)).toNat]?).toArray = its.reverse.toArray := by
    rw [List.size_toArray, pick_rev]
  rw [e]
  first
    | exact wpAny_bind (m := Builtin.Tuple.tupleExact _) (wpAny_newObj_type (wpAny_pure ⟨_, rfl, wpAny_pure h⟩) htake)
    | exact wpAny_bind (m := Builtin.Tuple.tupleExact _) (wpAny_newObj_type (wpAny_bind (wpAny_pure (wpAny_pure ⟨_, rfl, wpAny_pure h⟩))) htake)
    | exact wpAny_bind (wpAny_bind (m := Builtin.Tuple.tupleExact _) (wpAny_newObj_type (wpAny_pure (wpAny_pure ⟨_, rfl, wpAny_pure h⟩)) htake))
    | exact wpAny_bind (wpAny_bind (m := Builtin.Tuple.tupleExact _) (wpAny_newObj_type (wpAny_pure ⟨_, rfl, wpAny_pure h⟩) htake))
end
open L2 (V Hp HO SqL SqT upd upd_same upd_ne Cx It TI TE PE Inv ObjOk EP RelV Vals)
/-- t[::-1] -/
def fRev : D → List O → Option D := fun d _ => match d with
  | .tup xs => some (.tup xs.reverse)
  | _ => none
def tRevT (K : PySem.W.Frag) (te : TE) : TE := fun σ H Q => te σ H fun x H1 => ∃ a xs, x = .ref a ∧ SqT K H1 a xs ∧ ∀ p, H1 p = none → Q (.ref p) (upd H1 p (.tup xs.reverse))
theorem pe_rev {X : Cx} {e : Expr} {te : TE} {pos p2 p3 p4 : Pos} {j} (he : PE X e te) : PE X (.Subscript e (.Slice none none (some (.UnaryOp .USub (.Constant (.int 1) j p3) p4)) p2) pos) (tRevT X.K te) := by
  have hst : PE X (.UnaryOp .USub (.Constant (.int 1) j p3) p4) _ := L2.pe_un L2.un_neg L2.pe_int
  refine ⟨fun pins s σ H Q I h => ?_⟩
  refine Subscript_ (L2.thn (he.run pins s σ H _ I h) fun v s1 ⟨x, H1, I1, r1, a, xs, ex, hx, q1⟩ => ?_)
  subst ex
  cases r1
  refine wpAny_Slice ?_
  rw [evalPart_none]
  refine wpAny_pure (wpAny_pure ?_)
  rw [evalPart_some]
  refine L2.thn (hst.run pins s1 σ H1 (fun v H2 => v = .int (-1) ∧ H2 = H1) I1 ⟨1, rfl, rfl, rfl⟩) fun vs s3 ⟨y, H3, I3, ry, ey, eH⟩ => ?_
  subst ey eH
  obtain ⟨tk, rfl⟩ := ry
  have I4 : Inv X pins σ H3 { s3 with heap := s3.heap.push { cls := .type "slice", data := .fields #[.none, .none, .int (-1) tk] } } := I3.kept (t' := s3.toks) fun b ob q => Heap.get?_push_of_some _ q
  show wpAny (model X.prog X.w) X.A (subscriptTail e (.Slice none none (some (.UnaryOp .USub (.Constant (.int 1) j p3) p4)) p2) (.ref a) (.ref s3.heap.objs.size)) (EP X pins σ Q) X.xe { s3 with heap := s3.heap.push { cls := .type "slice", data := .fields #[.none, .none, .int (-1) tk] } }
  obtain ⟨its, r, ht, hz⟩ := I4.tuple hx
  refine tail_any (ops := [.ref a, .ref s3.heap.objs.size]) ht.typeIs PyProof.Rows.slot_tuple_getitem.lookup ?_ (by with_unfolding_all rfl)
  refine getItem_tuple_rev ht (Heap.IsSliceOf.new ..) ?_ (by rw [← r.length]; exact hz)
  refine ⟨.ref _, _, I4.laid (t' := s3.toks) (o := .tup xs.reverse) (fun b ob q => Heap.get?_push_of_some _ q) (Nat.le_refl _) ?_, rfl, q1 _ (I4.hok.fresh (Nat.le_refl _))⟩
  exact ⟨by rw [List.length_reverse]; exact hz, _, Vals.reverse r, IsTup.new _ _⟩
theorem me_rev {A : Anc} {X : Cx} (F : Fit A X) {e : Expr} {ma : TM} {pos p2 p3 p4 : Pos} {j} (ha : ME A X e ma) : ME A X (.Subscript e (.Slice none none (some (.UnaryOp .USub (.Constant (.int 1) j p3) p4)) p2) pos) (m1 fRev ma) := by
  refine me1 F (r := fun x H1 Q => ∃ a xs, x = .ref a ∧ SqT X.K H1 a xs ∧ ∀ p, H1 p = none → Q (.ref p) (upd H1 p (.tup xs.reverse))) (pe_rev ha) ?_
  intro W M H d v e Q hK hm r h1 he k
  unfold fRev at he
  split at he
  · cases he
    obtain ⟨p, vs, rfl, sq, t⟩ := vr_tup h1
    refine ⟨p, vs, rfl, hK ▸ r.sub.sqT sq, fun q hq => ?_⟩
    obtain ⟨W', a, b, c⟩ := lay_tup r hq t.reverse
    exact k W' _ _ a b c
  · cases he
end Mi
end
section
set_option maxHeartbeats 4000000
namespace Mi
open PySem (Str Addr Value Expr Stmt Pos PyData)
open L2 (V Hp HO SqL SqT upd upd_same upd_ne Cx TE TT TA TS TG TI It PE PT PA PS PSs PG PI VK XK WX St Ends)

def py (d : D) : PyData := (toPy d).getD .none
def leD (a b : D) : Bool := PySem.W.dataLe false py a b
def kindT : PyData → Bool
  | .tuple (_ :: _) => true
  | _ => false
def kindO : PyData → Bool
  | .none => false
  | .tuple _ => false
  | _ => true
def srtOk (xs : List D) : Bool := xs.all (fun d => (toPy d).isSome && decide ((py d).depth ≤ 100)) && xs.all (fun a => xs.all fun b => PySem.W.alike (py a) (py b)) && (xs.all (fun a => kindT (py a)) || xs.all fun a => kindO (py a)) && decide (xs.length ≤ lim)
def srtD (xs : List D) : List D := xs.mergeSort leD
def rSrtD (X : Cx) : List V → Hp → VK → Prop := fun vs H Q => ∃ (a : Addr) (ws : List V) (ds : List D), vs = [V.ref a] ∧ SqL X.K H a ws ∧ ds.length = ws.length ∧ (∀ p ∈ ds.zip ws, L2.Dp X.K H p.2 (py p.1)) ∧ srtOk ds = true ∧
  ∀ (ws' : List V) (p : Addr), ws'.length = ws.length → (ds.zip ws).mergeSort (PySem.W.dataLe false fun p : D × V => py p.1) = (srtD ds).zip ws' → H p = none → Q (.ref p) (upd H p (.lst ws'))
theorem each_zip {R : Value → D × V → Prop} : ∀ {ds : List D} {ws : List V} {us : List Value}, ds.length = ws.length → L2.Vals ws us → (∀ p ∈ ds.zip ws, ∀ u, L2.RelV p.2 u → R u p) → PySem.W.EachIs R us (ds.zip ws)
  | [], [], us, hl, h, k => by cases h; exact .nil
  | [], _ :: _, us, hl, h, k => by simp at hl
  | _ :: _, [], us, hl, h, k => by simp at hl
  | d :: ds, w :: ws, us, hl, h, k => by
    cases h with
    | cons r t => exact .cons (k (d, w) (by simp) _ r) (each_zip (by simpa using hl) t fun p hp u ru => k p (by simp [hp]) u ru)
theorem each_vals : ∀ {us : List Value} {ps : List (D × V)}, PySem.W.EachIs (fun u (p : D × V) => L2.RelV p.2 u) us ps → L2.Vals (ps.map (·.2)) us
  | _, _, .nil => .nil
  | _, _, .cons r t => .cons r (each_vals t)
theorem zip_fst_snd {α β : Type} : ∀ (l : List (α × β)), (l.map (·.1)).zip (l.map (·.2)) = l
  | [] => rfl
  | p :: l => by simp [zip_fst_snd l]
theorem map_fst_zip' : ∀ {ds : List D} {ws : List V}, ds.length = ws.length → (ds.zip ws).map (·.1) = ds
  | [], [], _ => rfl
  | [], _ :: _, h => by simp at h
  | _ :: _, [], h => by simp at h
  | d :: ds, w :: ws, h => by simp; exact map_fst_zip' (by simpa using h)
theorem cr_srtD {X : Cx} (hu : X.A.units + 200 < PySem.cLine) : L2.CallR X (.builtin "sorted") (rSrtD X) := by
  intro pins s σ H vs us Q I r h
  obtain ⟨a, ws, ds, rfl, hs, hlen, hdp, hok, q⟩ := h
  unfold srtOk at hok
  simp only [Bool.and_eq_true, List.all_eq_true, decide_eq_true_eq, Bool.or_eq_true] at hok
  obtain ⟨⟨⟨h1, h2⟩, h3⟩, h4⟩ := hok
  obtain ⟨its, rv, hl, hz⟩ := I.list hs
  rw [L2.Vals.ref1 r]
  have hmem : ∀ p ∈ ds.zip ws, p.1 ∈ ds := fun p hp => (List.of_mem_zip hp).1
  have e := each_zip (R := fun u (p : D × V) => L2.RelV p.2 u) hlen rv fun p _ u ru => ru
  have er := each_zip (R := fun u (p : D × V) => ∃ as, PySem.Reads s.heap u (py p.1) as) hlen rv fun p hp u ru => L2.Dp.reads I _ _ _ (hdp p hp) ru
  refine PySem.W.sorted_data (enc := fun p : D × V => py p.1) hl.isList e er ?_ ?_ ?_ ?_ fun out ho heach => ?_
  · intro d hd d' hd'
    obtain ⟨p, hp, rfl⟩ := List.mem_map.mp hd
    obtain ⟨p', hp', rfl⟩ := List.mem_map.mp hd'
    exact h2 _ (hmem p hp) _ (hmem p' hp')
  · rcases h3 with h3 | h3
    · refine .inl fun d hd => ?_
      obtain ⟨p, hp, rfl⟩ := List.mem_map.mp hd
      have := h3 _ (hmem p hp)
      cases hq : py p.1 with
      | tuple xs =>
        cases xs with
        | nil => rw [hq] at this; simp [kindT] at this
        | cons x r => exact ⟨x, r, rfl⟩
      | _ => rw [hq] at this; simp [kindT] at this
    · refine .inr fun d hd => ?_
      obtain ⟨p, hp, rfl⟩ := List.mem_map.mp hd
      have := h3 _ (hmem p hp)
      refine ⟨fun z => ?_, fun xs z => ?_⟩
      · rw [z] at this; simp [kindO] at this
      · rw [z] at this; simp [kindO] at this
  · rw [List.length_zip, lim_eq]; omega
  · intro p hp
    have := (h1 _ (hmem p hp)).2
    omega
  · obtain ⟨ep, he'⟩ := PyProof.Rows.sortedAll_at s.heap its out.toArray
    have hv := each_vals heach
    have hperm := List.mergeSort_perm (ds.zip ws) (PySem.W.dataLe false fun p : D × V => py p.1)
    have hl2 : (((ds.zip ws).mergeSort (PySem.W.dataLe false fun p : D × V => py p.1)).map (·.2)).length = ws.length := by
      rw [List.length_map, List.length_mergeSort, List.length_zip]; omega
    have hfst : ((ds.zip ws).mergeSort (PySem.W.dataLe false fun p : D × V => py p.1)).map (·.1) = srtD ds := by
      unfold srtD
      have := List.map_mergeSort (r := PySem.W.dataLe false fun p : D × V => py p.1) (s := leD) (f := fun p : D × V => p.1) (l := ds.zip ws) (fun a _ b _ => rfl)
      rw [this, map_fst_zip' hlen]
    refine ⟨.ref _, upd H (s.heap.objs.size + 1) (.lst _), I.laid (t' := s.toks) (fun _ _ => PyProof.Rows.sortedAll_old) (Nat.le_succ _) ⟨?_, out, ep, hv, he'⟩, rfl, q _ _ hl2 ?_ (I.hok.fresh (Nat.le_succ _))⟩
    · rw [hl2, lim_eq]; omega
    · rw [← hfst, zip_fst_snd]
/-- sorted(xs) of a list -/
def fSrt : D → List O → Option (List D) := fun d M => match rd M d with
  | .lst xs => if srtOk xs = true then some (srtD xs) else none
  | _ => none
theorem VRs.zip_dp {W : Wd} {M : List O} {H : Hp} (rm : RelM W M H) : ∀ {ds : List D} {vs : List V}, VRs W ds vs → (∀ d ∈ ds, (toPy d).isSome = true) → ∀ p ∈ ds.zip vs, L2.Dp W.K H p.2 (py p.1)
  | [], vs, h, k, p, hp => by simp at hp
  | d :: ds, vs, h, k, p, hp => by
    obtain ⟨v, r, rfl, a, b⟩ := h.inv
    rw [List.zip_cons_cons, List.mem_cons] at hp
    rcases hp with rfl | hp
    · obtain ⟨x, hx⟩ := Option.isSome_iff_exists.mp (k d (by simp))
      have e : py d = x := by unfold py; rw [hx]; rfl
      show L2.Dp W.K H v (py d)
      rw [e]
      exact toPy_dp rm.sub d v x a hx
    · exact VRs.zip_dp rm b (fun d hd => k d (by simp [hd])) p hp
theorem VRs.of_zip {W : Wd} : ∀ {ds : List D} {vs : List V}, ds.length = vs.length → (∀ p ∈ ds.zip vs, VR W p.1 p.2) → VRs W ds vs
  | [], [], _, _ => .nil
  | [], _ :: _, h, _ => by simp at h
  | _ :: _, [], h, _ => by simp at h
  | d :: ds, v :: vs, h, k => .cons (k (d, v) (by simp)) (VRs.of_zip (by simpa using h) fun p hp => k p (by simp [hp]))
theorem VRs.zip_mem {W : Wd} : ∀ {ds : List D} {vs : List V}, VRs W ds vs → ∀ p ∈ ds.zip vs, VR W p.1 p.2
  | [], vs, h, p, hp => by simp at hp
  | d :: ds, vs, h, p, hp => by
    obtain ⟨v, r, rfl, a, b⟩ := h.inv
    rw [List.zip_cons_cons, List.mem_cons] at hp
    rcases hp with rfl | hp
    · exact a
    · exact VRs.zip_mem b p hp
theorem VRs.srt {W : Wd} {ds : List D} {vs ws : List V} (t : VRs W ds vs) (hl : ws.length = vs.length) (he : (ds.zip vs).mergeSort (PySem.W.dataLe false fun p : D × V => py p.1) = (srtD ds).zip ws) : VRs W (srtD ds) ws := by
  refine VRs.of_zip (by unfold srtD; rw [List.length_mergeSort, hl, t.length]) fun p hp => ?_
  rw [← he] at hp
  exact VRs.zip_mem t p ((List.mergeSort_perm _ _).mem_iff.mp hp)
section
variable {A : Anc} {X : Cx} (F : Fit A X) {a : Expr} {ma : TM} {pos p : Pos}
include F
theorem ml_srt (hu : X.A.units + 200 < PySem.cLine) (hb : Blt X "sorted" (.builtin "sorted")) (ha : ME A X a ma) (he : PySem.starEach [a] X.env = (false, PySem.eval a X.env) :: PySem.starEach [] X.env := by rfl) : ML A X (.Call (.Name "sorted" p) [a] [] pos) (l1 fSrt ma) := by
  refine ml_B1 F (cr_srtD hu) hb ?_ ha (by decide) (by decide) he
  intro W M H d v e Q hK hm r h1 he k
  unfold fSrt at he
  split at he
  · rename_i xs hr
    split at he
    · rename_i hok
      cases he
      obtain ⟨q, vs, rfl, s, t⟩ := rd_lst r h1 hr
      have hok' := hok
      unfold srtOk at hok'
      simp only [Bool.and_eq_true, List.all_eq_true] at hok'
      refine ⟨q, vs, xs, rfl, hK ▸ s, t.length.symm, fun p hp => hK ▸ VRs.zip_dp r t (fun d hd => (hok'.1.1.1 d hd).1) p hp, hok, fun ws' p' hl hz hp' => ?_⟩
      obtain ⟨x1, x2, x3⟩ := lay_lst r hp' (t.srt hl hz)
      exact k W p' _ x1 x2 x3 hp'
    · cases he
  · cases he
end
end Mi
end
section
set_option maxHeartbeats 4000000
namespace L2
open PySem PySem.Spec PyProof.Rows
section
variable {X : Cx}
def mergeT (kvs more : List (List Key × V)) : List (List Key × V) := more.foldl (fun acc kv => putK acc kv.1 kv.2) kvs
theorem length_mergeT : ∀ (more kvs : List (List Key × V)), (mergeT kvs more).length ≤ kvs.length + more.length
  | [], kvs => by show kvs.length ≤ kvs.length + 0; omega
  | p :: r, kvs => by
    have h1 := length_mergeT r (putK kvs p.1 p.2)
    have h2 := length_putK kvs p.1 p.2
    show (mergeT (putK kvs p.1 p.2) r).length ≤ _
    rw [List.length_cons]; omega
theorem KT.merge {H : Hp} : ∀ {more : List (List Key × V)} {ps : List (List Key × Addr × Value)} {kvs : List (List Key × V)} {xs : List (List Key × Addr × Value)}, KT H more ps → KT H kvs xs → KT H (mergeT kvs more) (storedAllH xs ps) := by
  intro more ps kvs xs r
  induction r generalizing kvs xs with
  | nil => intro q; exact q
  | @cons p q ps qs h t ih =>
    intro r0
    have e : KT H (putK kvs p.1 p.2) (storedH xs q.1 q.2.1 q.2.2) := by
      have := r0.put p.1 h.2.1 h.2.2
      rw [← h.1]; exact this
    exact ih e
/-- the pair at p: the key, a tuple at b; the value -/
def PrT (K : PySem.W.Frag) (H : Hp) (p : Addr) (kv : List Key × V) : Prop := ∃ b, SqT K H p [.ref b, kv.2] ∧ H b = some (.tup (kv.1.map kV))
theorem pairsT_of {pins : List (Addr × Obj)} {σ : St} {H : Hp} {s : Shared} (I : Inv X pins σ H s) : ∀ {ps : List Addr} {kvs : List (List Key × V)}, Paired (PrT X.K H) ps kvs →
    ∃ prs : List (List Key × Addr × Value), KT H kvs prs ∧ prs.length = ps.length ∧ ∀ (j : Nat) (q : List Key × Addr × Value), prs[j]? = some q → ∃ b : Addr, ps[j]? = some b ∧ IsTup s.heap b #[.ref q.2.1, q.2.2]
  | _, _, .nil => ⟨[], .nil, rfl, fun j q e => by simp at e⟩
  | _, _, .cons (a := p) (b := kv) h t => by
    obtain ⟨prs, r, hl, hp⟩ := pairsT_of I t
    obtain ⟨b, h1, h2⟩ := h
    obtain ⟨its, rv, ht, _⟩ := I.tuple h1
    obtain ⟨u, y, ei, ru, ry⟩ := vals2 rv
    subst ei
    cases ru
    refine ⟨(kv.1, b, y) :: prs, .cons ⟨rfl, h2, ry⟩ r, by rw [List.length_cons, List.length_cons, hl], fun j q e => ?_⟩
    cases j with
    | zero =>
      have e' : (kv.1, b, y) = q := Option.some.inj e
      subst e'
      exact ⟨p, rfl, ht⟩
    | succ j =>
      obtain ⟨b', e1, e2⟩ := hp j q (by simpa using e)
      exact ⟨b', by simpa using e1, e2⟩
/-- dict(xs) of a list of pairs (tuple, value) -/
theorem call_dictT (hcalm : X.calm = true) (hu : X.A.units + 8 < cLine) : CallR X (.type "dict") (fun xs H Q => ∃ (a : Addr) (ps : List Addr) (kvs : List (List Key × V)), xs = [.ref a] ∧ SqL X.K H a (ps.map V.ref) ∧ Paired (PrT X.K H) ps kvs ∧
    ∀ p, H p = none → Q (.ref p) (upd H p (.dT (mergeT [] kvs)))) := by
  intro pins s σ H xs us Q I r q
  obtain ⟨a, ps, kvs, ex, hq, hp, q⟩ := q
  subst ex
  obtain ⟨u, eu, rx⟩ := vals1 r
  subst eu
  cases rx
  obtain ⟨its, rv, pl, hz⟩ := I.list hq
  have ei := refs_at rv
  subst ei
  rw [List.length_map] at hz
  obtain ⟨prs, rel, hl, hpr⟩ := pairsT_of I hp
  have hplain : PlainSeq "list" s.heap a (ps.map Value.ref).toArray := pl
  have hitems : PairItems s.heap (ps.map Value.ref).toArray (fun j => (ps[j]?).getD 0) (prs.map fun q => (Value.ref q.2.1, q.2.2)) := by
    refine ⟨by simp [hl], fun j k v e => ?_⟩
    rw [List.getElem?_map] at e
    cases e' : prs[j]? with
    | none => rw [e'] at e; cases e
    | some q0 =>
      rw [e'] at e
      cases e
      obtain ⟨b, e1, e2⟩ := hpr j q0 e'
      refine ⟨by simp [e1], ?_⟩
      show PairAt s.heap ((ps[j]?).getD 0) (Value.ref q0.2.1) q0.2.2
      rw [e1]
      exact .inl e2
  have P := PairArg.list (prog := X.prog) (w := X.w) a (ps.map Value.ref).toArray (fun j => (ps[j]?).getD 0) (prs.map fun q => (Value.ref q.2.1, q.2.2))
  have hkey : ∀ x ∈ prs, (tupleKind (mixKind X.prog X.w)).is s.heap x.1 x.2.1 := by
    have all : ∀ {l : List (List Key × V)} {m : List (List Key × Addr × Value)}, KT H l m → ∀ x ∈ m, (tupleKind (mixKind X.prog X.w)).is s.heap x.1 x.2.1 := by
      intro l m q
      induction q with
      | nil => intro x hx; exact nomatch hx
      | @cons p q ps qs hq t ih =>
        intro x hx
        rcases List.mem_cons.mp hx with e | hx
        · subst e
          exact key_of I.hok (by rw [← hq.1]; exact hq.2.1)
        · exact ih x hx
    exact all rel
  refine call_dict_pairsH (knd := tupleKind (mixKind X.prog X.w)) (ps := prs) P (I.ok.hd hcalm) ?_ ⟨hplain, hitems⟩ ?_ ?_ (by simpa [hl] using hz) fun h' tk hd' k => ?_
  · exact (show X.A.units + 1 + 1 < cLine from by omega)
  · refine ⟨by simp, fun i key v hr => ?_⟩
    have hr' : (prs.map fun q => (Value.ref q.2.1, q.2.2))[i]? = some (key, v) := hr
    rw [List.getElem?_map] at hr'
    cases e' : prs[i]? with
    | none => rw [e'] at hr'; cases hr'
    | some q0 => rw [e'] at hr'; cases hr'; exact ⟨q0.1, q0.2.1, rfl, rfl⟩
  · intro h' hk x hx
    exact HeapKind.Stays.all (tupleKind_stays (knd := mixKind X.prog X.w)) h' (fun b o _ e => hk b o (Nat.ne_of_lt (Heap.lt_size e)) (by simp) e) _ _ (hkey x hx)
  · have hm : (s.heap.objs.size == sysModules) = false := beq_eq_false_iff_ne.mpr (Nat.ne_of_gt I.big)
    have hn : H s.heap.objs.size = none := I.hok.fresh (Nat.le_refl _)
    have hlen : (mergeT [] kvs).length ≤ sizeLine := by
      refine Nat.le_trans (length_mergeT kvs []) ?_
      rw [List.length_nil, Nat.zero_add, Paired.length rel, hl]
      exact hz
    obtain ⟨o, es, ep, h1, h2, h3, h4, _, h5⟩ := hd'
    refine ⟨.ref s.heap.objs.size, upd H s.heap.objs.size (.dT (mergeT [] kvs)), I.laid (t' := tk) (fun b o e => k b o (by simp) e) (Nat.le_refl _) ⟨hlen, hm, _, ((KT.merge rel .nil).keeps fun c ys ec => ?_), o, es, ep, h1, h2, h3, h4, h5⟩, rfl, q _ hn⟩
    rw [upd_ne (ne_of_none ec hn)]
    exact ec
end
end L2

namespace Mi
open PySem (Str Addr Value Expr Stmt Pos PyData)
open L2 (V Hp HO SqL SqT upd upd_same upd_ne Cx TE TT TA TS TG TI It PE PT PA PS PSs PG PI VK XK WX St Ends Key kV)
def toK : D → Option Key
  | .int i => some (.inl i)
  | .str x => some (.inr x)
  | _ => none
def toKl : List D → Option (List Key)
  | [] => some []
  | d :: ds => match toK d, toKl ds with
    | some k, some l => some (k :: l)
    | _, _ => none
def toKT : D → Option (List Key)
  | .tup xs => toKl xs
  | _ => none
section
variable {κ : Type} [DecidableEq κ]
def valD : List κ → List D → κ → Option D
  | k0 :: ks, x :: xs, k => if k0 = k then some x else valD ks xs k
  | _, _, _ => none
def putD (l : List κ) (xs : List D) (k : κ) (d : D) : List κ × List D :=
  if (l.any fun k0 => decide (k0 = k)) = true then (l, List.zipWith (fun k0 x => if k0 = k then d else x) l xs) else (l ++ [k], xs ++ [d])
def putV (l : List κ) (xs : List V) (k : κ) (d : V) : List V :=
  if (l.any fun k0 => decide (k0 = k)) = true then List.zipWith (fun k0 x => if k0 = k then d else x) l xs else xs ++ [d]
theorem VRs.valD {W : Wd} {k : κ} : ∀ {l : List κ} {xs : List D} {vs : List V}, l.length = vs.length → VRs W xs vs → (∀ d, Mi.valD l xs k = some d → ∃ v, L2.valV (l.zip vs) k = some v ∧ VR W d v) ∧ (Mi.valD l xs k = none → L2.valV (l.zip vs) k = none)
  | [], xs, vs, hl, h => by
    cases vs with
    | nil => exact ⟨fun d e => by simp [Mi.valD] at e, fun _ => rfl⟩
    | cons _ _ => simp at hl
  | k0 :: ks, [], vs, hl, h => by rw [h.inv0] at hl; simp at hl
  | k0 :: ks, x :: xs, vs, hl, h => by
    obtain ⟨v, r, rfl, a, b⟩ := h.inv
    obtain ⟨i1, i2⟩ := VRs.valD (k := k) (l := ks) (by simpa using hl) b
    unfold Mi.valD
    rw [List.zip_cons_cons]
    by_cases e : k0 = k
    · rw [if_pos e, L2.valV_pos (p := (k0, v)) e]
      exact ⟨fun d z => by cases z; exact ⟨v, rfl, a⟩, fun z => by cases z⟩
    · rw [if_neg e, L2.valV_neg (p := (k0, v)) e]
      exact ⟨i1, i2⟩
theorem zip_putK {k : κ} {v : V} {l : List κ} {vs : List V} (hl : l.length = vs.length) {xs : List D} {d : D} : L2.putK (l.zip vs) k v = (putD l xs k d).1.zip (putV l vs k v) ∧ (putD l xs k d).1.length = (putV l vs k v).length := by
  have hany : ((l.zip vs).any fun kv => decide (kv.1 = k)) = l.any fun k0 => decide (k0 = k) := by
    have : ∀ (l : List κ) (vs : List V), l.length = vs.length → ((l.zip vs).any fun kv => decide (kv.1 = k)) = l.any fun k0 => decide (k0 = k) := by
      intro l
      induction l with
      | nil => intro vs _; rfl
      | cons a l ih =>
        intro vs h
        cases vs with
        | nil => simp at h
        | cons w vs => simp [ih vs (by simpa using h)]
    exact this l vs hl
  unfold L2.putK putD putV
  rw [hany]
  by_cases c : (l.any fun k0 => decide (k0 = k)) = true
  · rw [if_pos c, if_pos c, if_pos c]
    refine ⟨?_, by simp [hl]⟩
    have : ∀ (l : List κ) (vs : List V), l.length = vs.length → ((l.zip vs).map fun kv => if kv.1 = k then (kv.1, v) else kv) = l.zip (List.zipWith (fun k0 x => if k0 = k then v else x) l vs) := by
      intro l
      induction l with
      | nil => intro vs _; rfl
      | cons a l ih =>
        intro vs h
        cases vs with
        | nil => simp at h
        | cons w vs =>
          simp only [List.zip_cons_cons, List.map_cons, List.zipWith_cons_cons]
          rw [ih vs (by simpa using h)]
          by_cases e : a = k <;> simp [e]
    exact this l vs hl
  · rw [if_neg c, if_neg c, if_neg c]
    refine ⟨?_, by simp [hl]⟩
    rw [List.zip_append hl]
    rfl
theorem VRs.putD {W : Wd} {k : κ} {d : D} {v : V} (hd : VR W d v) {l : List κ} {xs : List D} {vs : List V} (h : VRs W xs vs) : VRs W (Mi.putD l xs k d).2 (putV l vs k v) := by
  unfold Mi.putD putV
  by_cases c : (l.any fun k0 => decide (k0 = k)) = true
  · rw [if_pos c, if_pos c]
    have : ∀ (l : List κ) (xs : List D) (vs : List V), VRs W xs vs → VRs W (List.zipWith (fun k0 x => if k0 = k then d else x) l xs) (List.zipWith (fun k0 x => if k0 = k then v else x) l vs) := by
      intro l
      induction l with
      | nil => intro xs vs _; exact .nil
      | cons a l ih =>
        intro xs vs h
        cases xs with
        | nil => rw [h.inv0]; exact .nil
        | cons x xs =>
          obtain ⟨w, r, rfl, ha, hb⟩ := h.inv
          refine .cons ?_ (ih xs r hb)
          show VR W (if a = k then d else x) (if a = k then v else w)
          by_cases e : a = k
          · rw [if_pos e, if_pos e]; exact hd
          · rw [if_neg e, if_neg e]; exact ha
    exact this l xs vs h
  · rw [if_neg c, if_neg c]
    exact h.append (.cons hd .nil)
end
theorem toK_V {W : Wd} {d : D} {v : V} {k : Key} (h : VR W d v) (e : toK d = some k) : v = kV k := by
  cases d <;> simp [toK] at e
  · subst e; exact vr_int h
  · subst e; exact vr_str h
theorem toKl_V {W : Wd} : ∀ {ds : List D} {vs : List V} {l : List Key}, VRs W ds vs → toKl ds = some l → vs = l.map kV
  | [], vs, l, h, e => by simp [toKl] at e; subst e; rw [h.inv0]; rfl
  | d :: ds, vs, l, h, e => by
    obtain ⟨v, r, rfl, a, b⟩ := h.inv
    unfold toKl at e
    split at e
    · rename_i k l' h1 h2
      cases e
      rw [toK_V a h1, toKl_V b h2]; rfl
    · cases e
theorem toKT_V {W : Wd} {M : List O} {H : Hp} (rm : RelM W M H) {d : D} {v : V} {k : List Key} (h : VR W d v) (e : toKT d = some k) : ∃ b, v = .ref b ∧ H b = some (.tup (k.map kV)) := by
  cases d <;> simp [toKT] at e
  obtain ⟨p, vs, rfl, s, t⟩ := vr_tupF h
  rw [toKl_V t e] at s
  exact ⟨p, rfl, rm.sub _ _ s⟩
def getD' (ks : Ks) (xs : List D) (key : D) : Option (Option D) := match ks with
  | .k l => (toK key).map fun k => valD l xs k
  | .t l => (toKT key).map fun k => valD l xs k
theorem VRs.dget {W : Wd} {M : List O} {H : Hp} (rm : RelM W M H) {ks : Ks} {xs : List D} {vs : List V} {o : HO} {p : Addr} {key : D} {vk : V} {r : Option D} (hp : H p = some o) (hd : DO o ks vs) (t : VRs W xs vs) (hk : VR W key vk) (e : getD' ks xs key = some r) :
    ∃ rv, L2.DGet H p vk rv ∧ (∀ d, r = some d → ∃ v, rv = some v ∧ VR W d v) ∧ (r = none → rv = none) := by
  cases ks with
  | k l =>
    obtain ⟨hl, rfl⟩ := hd
    unfold getD' at e
    obtain ⟨k, hk', rfl⟩ := Option.map_eq_some_iff.mp e
    rw [toK_V hk hk']
    obtain ⟨i1, i2⟩ := t.valD (k := k) hl
    exact ⟨_, .k hp, i1, i2⟩
  | t l =>
    obtain ⟨hl, rfl⟩ := hd
    unfold getD' at e
    obtain ⟨k, hk', rfl⟩ := Option.map_eq_some_iff.mp e
    obtain ⟨b, rfl, hb⟩ := toKT_V rm hk hk'
    obtain ⟨i1, i2⟩ := t.valD (k := k) hl
    exact ⟨_, .t hp hb, i1, i2⟩
def fDGet : D → D → List O → Option D := fun o k M => match rd M o with
  | .dic ks xs => match getD' ks xs k with
    | some (some d) => some d
    | _ => none
  | _ => none
def fDIn (neg : Bool) : D → D → List O → Option D := fun k o M => match rd M o with
  | .dic ks xs => (getD' ks xs k).map fun r => .bl (if neg then !r.isSome else r.isSome)
  | _ => none
def sDPut (o i v : TM) : TSm := fun env M K => v env M (fun d M1 => o env M1 (fun s M2 => i env M2 (fun key M3 => ∃ c ks xs, s = .ref c ∧ M3[c]? = some (.dic ks xs) ∧ xs.length < lim ∧
  match ks with
  | .k l => ∃ k, toK key = some k ∧ K.nx env (M3.set c (.dic (.k (putD l xs k d).1) (putD l xs k d).2))
  | .t l => ∃ k, toKT key = some k ∧ K.nx env (M3.set c (.dic (.t (putD l xs k d).1) (putD l xs k d).2))) K.ex) K.ex) K.ex
section
variable {A : Anc} {X : Cx} (F : Fit A X) {o i value : Expr} {mo mi mv : TM} {pos pos' : Pos}
include F
theorem me_dget (hu : X.A.units + 1 < PySem.cLine) (ho : ME A X o mo) (hi : ME A X i mi) (hs : L2.NoSl i := by exact fun _ _ => rfl) : ME A X (.Subscript o i pos) (m2 fDGet mo mi) := by
  refine me2 F (r := fun x y H Q => ∃ a v, x = .ref a ∧ L2.DGet H a y (some v) ∧ Q v H) (L2.pe_dget hu ho hi hs) ?_
  intro W M H d d2 v v2 e Q hK hm rm h1 h2 he k
  unfold fDGet at he
  split at he
  · rename_i ks xs hr
    split at he
    · rename_i dd hg
      cases he
      obtain ⟨p, o, vs, rfl, hp, hd, t⟩ := rd_dic rm h1 hr
      obtain ⟨rv, g, i1, i2⟩ := t.dget rm hp hd h2 hg
      obtain ⟨w, rfl, rw'⟩ := i1 _ rfl
      exact ⟨p, w, rfl, g, k W w H .refl rm rw'⟩
    · cases he
  · cases he
theorem p_din (neg : Bool) : Prim2 X (fun y x H Q => ∃ a o, x = .ref a ∧ L2.DGet H a y o ∧ Q (.bl (if neg then !o.isSome else o.isSome)) H) (fDIn neg) := by
  intro W M H d d2 v v2 e Q hK hm rm h1 h2 he k
  unfold fDIn at he
  split at he
  · rename_i ks xs hr
    obtain ⟨r, hg, rfl⟩ := Option.map_eq_some_iff.mp he
    obtain ⟨p, o, vs, rfl, hp, hd, t⟩ := rd_dic rm h2 hr
    obtain ⟨rv, g, i1, i2⟩ := t.dget rm hp hd h1 hg
    have e : rv.isSome = r.isSome := by
      cases r with
      | none => rw [i2 rfl]; rfl
      | some d => obtain ⟨w, rfl, _⟩ := i1 _ rfl; rfl
    exact ⟨p, rv, rfl, g, k W _ H .refl rm (by rw [e]; exact VR.bl _)⟩
  · cases he
theorem mt_din (hu : X.A.units + 1 < PySem.cLine) (hi : ME A X i mi) (ho : ME A X o mo) (hm : PySem.behindInMarks .In o = false := by rfl) : MT A X (.Compare i [.In] [o] pos) (mT (m2 (fDIn false) mi mo)) :=
  mt_of (L2.pt_cmp (L2.pc_din hu hi ho) hm) (imp2 F (p_din F false))
theorem mt_dnin (hu : X.A.units + 1 < PySem.cLine) (hi : ME A X i mi) (ho : ME A X o mo) (hm : PySem.behindInMarks .NotIn o = false := by rfl) : MT A X (.Compare i [.NotIn] [o] pos) (mT (m2 (fDIn true) mi mo)) :=
  mt_of (L2.pt_cmp (L2.pc_dnotin hu hi ho) hm) (imp2 F (p_din F true))
theorem me_din (hu : X.A.units + 1 < PySem.cLine) (hi : ME A X i mi) (ho : ME A X o mo) (hm : PySem.behindInMarks .In o = false := by rfl) : ME A X (.Compare i [.In] [o] pos) (m2 (fDIn false) mi mo) :=
  me2 F (L2.pe_cmp (L2.pc_din hu hi ho) hm) (p_din F false)
theorem me_dnin (hu : X.A.units + 1 < PySem.cLine) (hi : ME A X i mi) (ho : ME A X o mo) (hm : PySem.behindInMarks .NotIn o = false := by rfl) : ME A X (.Compare i [.NotIn] [o] pos) (m2 (fDIn true) mi mo) :=
  me2 F (L2.pe_cmp (L2.pc_dnotin hu hi ho) hm) (p_din F true)
theorem ms_dput (hu : X.A.units + 1 < PySem.cLine) (ho : ME A X o mo) (hi : ME A X i mi) (hv : ME A X value mv) (hs : PySem.swapsWith value (some (.Subscript o i pos')) pos.line X.env = pure false := by rfl) (hn : L2.NoSl i := by exact fun _ _ => rfl) :
    MS A X (.Assign [.Subscript o i pos'] value pos) (sDPut mo mi mv) := by
  refine ps_imp (L2.ps_dput hu ho hi hv hs) fun D σ H ⟨W, env, M, K, s, h, hex, k1, k2⟩ => ?_
  refine ⟨W, env, M, _, s, xe (P := mv env M _) hex h, fun W1 d M1 v H1 s1 rm1 r1 h1 => ?_⟩
  have S1 := s.next s1 rm1
  refine ⟨W1, env, M1, _, S1, xe (P := mo env M1 _) hex h1, fun W2 sd M2 v2 H2 s2 rm2 r2 h2 => ?_⟩
  have S2 := S1.next s2 rm2
  refine ⟨W2, env, M2, _, S2, xe (P := mi env M2 _) hex h2, fun W3 key M3 vk H3 s3 rm3 r3 ⟨c, ks, xs, e1, hc, hl, hq⟩ => ?_⟩
  subst e1
  obtain ⟨p, rfl, hp⟩ := vr_ref (VR.mono s3.le _ _ r2)
  obtain ⟨hF, ob, vs, hH, hd, hv⟩ := rm3.cell c _ p hc hp
  have st := s1.trans (s2.trans s3)
  have r1' := VR.mono (s2.trans s3).le _ _ r1
  cases ks with
  | k l =>
    obtain ⟨k, hk, hnx⟩ := hq
    obtain ⟨hlen, rfl⟩ := hd
    rw [toK_V r3 hk]
    obtain ⟨z1, z2⟩ := zip_putK (k := k) (v := v) hlen (xs := xs) (d := d)
    refine ⟨p, _, rfl, .k hH (by rw [List.length_zip, lim_eq, hv.length] ; omega), ?_⟩
    obtain ⟨a', b'⟩ := rm3.put (c := .dic (.k (putD l xs k d).1) (putD l xs k d).2) (o := .dK (L2.putK (l.zip vs) k v)) hp hF ⟨hF, _, putV l vs k v, upd_same, ⟨z2, by rw [z1]⟩, hv.putD r1'⟩
    exact k1 _ env _ _ _ (st.trans b') a' (s.re.mono (st.trans b').le) hnx
  | t l =>
    obtain ⟨k, hk, hnx⟩ := hq
    obtain ⟨hlen, rfl⟩ := hd
    obtain ⟨b, rfl, hb⟩ := toKT_V rm3 r3 hk
    obtain ⟨z1, z2⟩ := zip_putK (k := k) (v := v) hlen (xs := xs) (d := d)
    refine ⟨p, _, rfl, .t hH hb (by rw [List.length_zip, lim_eq, hv.length] ; omega), ?_⟩
    obtain ⟨a', b'⟩ := rm3.put (c := .dic (.t (putD l xs k d).1) (putD l xs k d).2) (o := .dT (L2.putK (l.zip vs) k v)) hp hF ⟨hF, _, putV l vs k v, upd_same, ⟨z2, by rw [z1]⟩, hv.putD r1'⟩
    exact k1 _ env _ _ _ (st.trans b') a' (s.re.mono (st.trans b').le) hnx
end

def prK : List D → Option (List Key × List D)
  | [] => some ([], [])
  | .tup [k, d] :: r => match toK k, prK r with
    | some k, some (ks, ds) => some (k :: ks, d :: ds)
    | _, _ => none
  | _ => none
def prT : List D → Option (List (List Key) × List D)
  | [] => some ([], [])
  | .tup [k, d] :: r => match toKT k, prT r with
    | some k, some (ks, ds) => some (k :: ks, d :: ds)
    | _, _ => none
  | _ => none
section
variable {κ : Type} [DecidableEq κ]
def mrgD : List κ → List D → List κ → List D → List κ × List D
  | l, xs, k :: ks, d :: ds => mrgD (putD l xs k d).1 (putD l xs k d).2 ks ds
  | l, xs, _, _ => (l, xs)
def mrgV : List κ → List D → List V → List κ → List D → List V → List V
  | l, xs, vs, k :: ks, d :: ds, w :: ws => mrgV (putD l xs k d).1 (putD l xs k d).2 (putV l vs k w) ks ds ws
  | _, _, vs, _, _, _ => vs
theorem mrg_ok {W : Wd} : ∀ {ks : List κ} {ds : List D} {ws : List V} {l : List κ} {xs : List D} {vs : List V}, ks.length = ds.length → VRs W ds ws → l.length = vs.length → VRs W xs vs →
    (ks.zip ws).foldl (fun acc kv => L2.putK acc kv.1 kv.2) (l.zip vs) = (mrgD l xs ks ds).1.zip (mrgV l xs vs ks ds ws) ∧ (mrgD l xs ks ds).1.length = (mrgV l xs vs ks ds ws).length ∧ VRs W (mrgD l xs ks ds).2 (mrgV l xs vs ks ds ws)
  | [], [], ws, l, xs, vs, _, h, hl, hv => by rw [h.inv0]; exact ⟨rfl, hl, hv⟩
  | [], _ :: _, _, _, _, _, e, _, _, _ => by simp at e
  | _ :: _, [], _, _, _, _, e, _, _, _ => by simp at e
  | k :: ks, d :: ds, ws, l, xs, vs, e, h, hl, hv => by
    obtain ⟨w, r, rfl, a, b⟩ := h.inv
    obtain ⟨z1, z2⟩ := zip_putK (k := k) (v := w) hl (xs := xs) (d := d)
    have := mrg_ok (l := (putD l xs k d).1) (xs := (putD l xs k d).2) (vs := putV l vs k w) (by simpa using e) b z2 (hv.putD a)
    rw [← z1] at this
    exact this
end
def dOf : D → Option D
  | .lst ps => match prK ps with
    | some (ks, ds) => some (.dic (.k (mrgD [] [] ks ds).1) (mrgD [] [] ks ds).2)
    | none => match prT ps with
      | some (ks, ds) => some (.dic (.t (mrgD [] [] ks ds).1) (mrgD [] [] ks ds).2)
      | none => none
  | _ => none
def fDOf : D → List O → Option D := fun d _ => dOf d
theorem lay_dic {W : Wd} {M : List O} {H : Hp} (r : RelM W M H) {p : Addr} {ks : Ks} {xs : List D} {vs : List V} {o : HO} (hp : H p = none) (hd : DO o ks vs) (h : VRs W xs vs) :
    ∃ W', Step W H W' (upd H p o) ∧ RelM W' M (upd H p o) ∧ VR W' (.dic ks xs) (.ref p) := by
  obtain ⟨a, b⟩ := r.lay (o := o) hp
  refine ⟨_, b, a, ?_⟩
  unfold VR
  exact ⟨p, o, vs, rfl, upd_same, hd, VRs.mono b.le _ _ h⟩
theorem prK_ok {W : Wd} {M : List O} {H : Hp} (rm : RelM W M H) : ∀ {ps : List D} {vs : List V} {ks : List Key} {ds : List D}, VRs W ps vs → prK ps = some (ks, ds) →
    ∃ (as : List Addr) (ws : List V), vs = as.map V.ref ∧ VRs W ds ws ∧ ks.length = ds.length ∧ PySem.Paired (fun p kv => SqT W.K H p [kV kv.1, kv.2]) as (ks.zip ws)
  | [], vs, ks, ds, h, e => by
    simp [prK] at e
    obtain ⟨rfl, rfl⟩ := e
    rw [h.inv0]
    exact ⟨[], [], rfl, .nil, rfl, .nil⟩
  | p :: ps, vs, ks, ds, h, e => by
    obtain ⟨v, r, rfl, a, b⟩ := h.inv
    unfold prK at e
    split at e
    · rename_i h0; simp at h0
    · rename_i k0 d0 r0 h0
      simp only [List.cons.injEq] at h0
      obtain ⟨rfl, rfl⟩ := h0
      split at e
      · rename_i k' ks' ds' hk hr
        cases e
        obtain ⟨as, ws, rfl, i1, i2, i3⟩ := prK_ok rm b hr
        obtain ⟨q, us, rfl, hq, hu⟩ := vr_tupF a
        obtain ⟨u1, r1, rfl, ra, rb⟩ := hu.inv
        obtain ⟨u2, r2, rfl, rc, rd⟩ := rb.inv
        have := rd.inv0; subst this
        rw [toK_V ra hk] at hq
        exact ⟨q :: as, u2 :: ws, rfl, .cons rc i1, by simp [i2], .cons (.of (rm.sub _ _ hq)) i3⟩
      · cases e
    · cases e
theorem prT_ok {W : Wd} {M : List O} {H : Hp} (rm : RelM W M H) : ∀ {ps : List D} {vs : List V} {ks : List (List Key)} {ds : List D}, VRs W ps vs → prT ps = some (ks, ds) →
    ∃ (as : List Addr) (ws : List V), vs = as.map V.ref ∧ VRs W ds ws ∧ ks.length = ds.length ∧ PySem.Paired (L2.PrT W.K H) as (ks.zip ws)
  | [], vs, ks, ds, h, e => by
    simp [prT] at e
    obtain ⟨rfl, rfl⟩ := e
    rw [h.inv0]
    exact ⟨[], [], rfl, .nil, rfl, .nil⟩
  | p :: ps, vs, ks, ds, h, e => by
    obtain ⟨v, r, rfl, a, b⟩ := h.inv
    unfold prT at e
    split at e
    · rename_i h0; simp at h0
    · rename_i k0 d0 r0 h0
      simp only [List.cons.injEq] at h0
      obtain ⟨rfl, rfl⟩ := h0
      split at e
      · rename_i k' ks' ds' hk hr
        cases e
        obtain ⟨as, ws, rfl, i1, i2, i3⟩ := prT_ok rm b hr
        obtain ⟨q, us, rfl, hq, hu⟩ := vr_tupF a
        obtain ⟨u1, r1, rfl, ra, rb⟩ := hu.inv
        obtain ⟨u2, r2, rfl, rc, rd⟩ := rb.inv
        have := rd.inv0; subst this
        obtain ⟨kb, rfl, hkb⟩ := toKT_V rm ra hk
        exact ⟨q :: as, u2 :: ws, rfl, .cons rc i1, by simp [i2], .cons ⟨kb, .of (rm.sub _ _ hq), hkb⟩ i3⟩
      · cases e
    · cases e
section
variable {A : Anc} {X : Cx} (F : Fit A X) {a : Expr} {ma : TM} {pos p : Pos}
include F
theorem me_dOf (hc : X.calm = true) (hu : X.A.units + 200 < PySem.cLine) (hb : Blt X "dict" (.type "dict")) (ha : ME A X a ma) (he : PySem.starEach [a] X.env = (false, PySem.eval a X.env) :: PySem.starEach [] X.env := by rfl) : ME A X (.Call (.Name "dict" p) [a] [] pos) (m1 fDOf ma) := by
  have hcr : L2.CallR X (.type "dict") (fun xs H Q => (∃ (a : Addr) (ps : List Addr) (kvs : List (Key × V)), xs = [.ref a] ∧ SqL X.K H a (ps.map V.ref) ∧ PySem.Paired (fun p kv => SqT X.K H p [kV kv.1, kv.2]) ps kvs ∧ ∀ p, H p = none → Q (.ref p) (upd H p (.dK (L2.mergeK [] kvs)))) ∨
      ∃ (a : Addr) (ps : List Addr) (kvs : List (List Key × V)), xs = [.ref a] ∧ SqL X.K H a (ps.map V.ref) ∧ PySem.Paired (L2.PrT X.K H) ps kvs ∧ ∀ p, H p = none → Q (.ref p) (upd H p (.dT (L2.mergeT [] kvs)))) := by
    intro pins s σ H xs us Q I r h
    rcases h with h | h
    · exact L2.call_dictP hc pins s σ H xs us Q I r h
    · exact L2.call_dictT hc (by omega) pins s σ H xs us Q I r h
  refine me_T1 F hcr hb ?_ ha (by decide) (by decide) he
  intro W M H d v e Q hK hm rm r1 he k
  unfold fDOf dOf at he
  split at he
  · rename_i ps
    obtain ⟨q, vs, rfl, hq, t⟩ := vr_lst r1
    split at he
    · rename_i ks ds hp
      cases he
      obtain ⟨as, ws, rfl, i1, i2, i3⟩ := prK_ok rm t hp
      obtain ⟨m1, m2, m3⟩ := mrg_ok (l := []) (xs := []) (vs := []) i2 i1 rfl .nil
      refine .inl ⟨q, as, ks.zip ws, rfl, hK ▸ rm.sub.sqL hq, hK ▸ i3, fun p' hp' => ?_⟩
      have e1 : L2.mergeK [] (ks.zip ws) = _ := m1
      rw [e1]
      obtain ⟨W', x1, x2, x3⟩ := lay_dic rm hp' (ks := .k (mrgD [] [] ks ds).1) (o := .dK ((mrgD [] [] ks ds).1.zip (mrgV [] [] [] ks ds ws))) ⟨m2, rfl⟩ m3
      exact k W' _ _ x1 x2 x3
    · split at he
      · rename_i ks ds hp
        cases he
        obtain ⟨as, ws, rfl, i1, i2, i3⟩ := prT_ok rm t hp
        obtain ⟨m1, m2, m3⟩ := mrg_ok (l := []) (xs := []) (vs := []) i2 i1 rfl .nil
        refine .inr ⟨q, as, ks.zip ws, rfl, hK ▸ rm.sub.sqL hq, hK ▸ i3, fun p' hp' => ?_⟩
        have e1 : L2.mergeT [] (ks.zip ws) = _ := m1
        rw [e1]
        obtain ⟨W', x1, x2, x3⟩ := lay_dic rm hp' (ks := .t (mrgD [] [] ks ds).1) (o := .dT ((mrgD [] [] ks ds).1.zip (mrgV [] [] [] ks ds ws))) ⟨m2, rfl⟩ m3
        exact k W' _ _ x1 x2 x3
      · cases he
  · cases he
end
end Mi
end
section
set_option maxHeartbeats 4000000
namespace Mi
open PySem PySem.Spec PyProof.Rows
open L2 (V Hp HO SqL SqT upd upd_same upd_ne Cx TE TT TA TS PE PT PA PS PSs VK XK WX Inv ObjOk EP SP RelV Vals exo exd del Gl Sp FnOk Room Binds Passes PMk MkP Raises)

/-- own classes, then Exception's line -/
def refsX : List Value → Bool
  | .ref _ :: r => refsX r
  | l => l == ESX.exTail
theorem refsX_cases : ∀ l : List Value, refsX l = true → (∃ c r, l = .ref c :: r ∧ refsX r = true) ∨ l = ESX.exTail
  | [], e => .inr (beq_iff_eq.mp e)
  | .ref c :: r, e => .inl ⟨c, r, rfl, e⟩
  | .none :: _, e => .inr (beq_iff_eq.mp e)
  | .ellipsis :: _, e => .inr (beq_iff_eq.mp e)
  | .notImplemented :: _, e => .inr (beq_iff_eq.mp e)
  | .bool _ :: _, e => .inr (beq_iff_eq.mp e)
  | .int _ _ :: _, e => .inr (beq_iff_eq.mp e)
  | .float _ _ :: _, e => .inr (beq_iff_eq.mp e)
  | .str _ _ :: _, e => .inr (beq_iff_eq.mp e)
  | .bytes _ _ :: _, e => .inr (beq_iff_eq.mp e)
  | .type _ :: _, e => .inr (beq_iff_eq.mp e)
  | .builtin _ :: _, e => .inr (beq_iff_eq.mp e)
theorem refsX_pass (me : Value) : ∀ l : List Value, refsX l = true → refuseLoop me "__setattr__" l = pure ()
  | [], e => absurd e (by decide)
  | a :: r, e => by
    rcases refsX_cases (a :: r) e with ⟨c, r2, q, h⟩ | q
    · obtain ⟨rfl, rfl⟩ := List.cons.inj q
      rw [refuseLoop_ref]
      exact refsX_pass me r h
    · rw [q]; exact F.store_Exception.passes me
theorem refsX_has (T : String) : ∀ l : List Value, refsX l = true → l.contains (.type T) = ESX.exTail.contains (.type T)
  | [], e => absurd e (by decide)
  | a :: r, e => by
    rcases refsX_cases (a :: r) e with ⟨c, r2, q, h⟩ | q
    · obtain ⟨rfl, rfl⟩ := List.cons.inj q
      rw [List.contains_cons, refsX_has T r h]; rfl
    · rw [q]
theorem refsX_ne {l : List Value} (e : refsX l = true) : l.isEmpty = false := by
  cases l with
  | nil => exact absurd e (by decide)
  | cons _ _ => rfl
section
open Builtin Builtin.ObjectAttr
variable {prog : Program} {w : World} {A : Around} {E : Value → Shared → Prop} {R : Result → Shared → Prop} {hp : Heap} {g : Array GenState} {d : Drawn} {t : Nat} {os : OsState}
theorem osaX {K : W.Frag} {name : Str} {tk : Tok} {v : Value} {x C : Addr} {fv : Array Value} {cd : ClassData}
    (X : K.In hp) (hx : hp.get? x = some { cls := .ref C, data := .fields fv }) (hcd : W.clsIn K C = some cd) (hm : refsX cd.mro = true) (hh : cd.hasDict = true) (ha : W.findIn K (.ref C) name = some none)
    (hq : ∀ h' tk' dx, (∀ b o, b ≠ x → hp.get? b = some o → h'.get? b = some o) → hp.objs.size ≤ dx → dx ≠ x → h'.get? x = some { cls := .ref C, dict := some dx, data := .fields fv } →
      h'.Ns1 dx (fun y => if y = name then some v else none) → R (.ok (.ret .none)) ⟨h', g, d, tk', os⟩) :
    codeAny (model prog w) A (.call (.builtin "object.__setattr__") ⟨[.ref x, .str name tk, v], []⟩) R ⟨hp, g, d, t, os⟩ := by
  have J : W.InstAt hp x { cls := .ref C, data := .fields fv } C none := ⟨hx, rfl, rfl, trivial⟩
  have SF := F.store_object
  have hob : cd.mro.contains (.type "object") = true := (refsX_has "object" _ hm).trans (by decide +kernel)
  have hxs : x ≠ hp.objs.size := Nat.ne_of_lt (Heap.lt_size hx)
  have sub : W.Looks (model prog w) hp (isInstance (.ref x) (.type "object")) true := J.type.andThen (W.looks_mroIn X (by unfold W.mroIn; rw [hcd, Option.bind_some, if_neg (by rw [refsX_ne hm]; decide), hob]))
  refine codeAny_call_builtin SF.slot.plain SF.entry (@W.check_slot (model prog w) _ _ ⟨hp, g, d, t, os⟩ "object.__setattr__" "object" "__setattr__" (.ref x) [.str name tk, v] [] _ SF.kind SF.split sub (SF.args (.ref x) (.str name tk) v) ?_)
  have hmr : W.Looks (model prog w) hp (mroOf (.ref C)) cd.mro := (W.looks_clsIn X hcd).andThen .now
  have L3 : W.Looks (model prog w) hp (storeTaker? none) none := .now
  have hcls : W.Looks (model prog w) hp (classData C) cd := W.looks_clsIn X hcd
  rw [W.osa_eq, refuse_eq]
  refine wpAny_bind (wpAny_bind (J.type.at (wpAny_bind (hmr.at ?_))))
  rw [refsX_pass _ _ hm]
  refine wpAny_pure (wpAny_bind (J.type.at (wpAny_bind ((W.looks_findIn X ha).at (wpAny_bind (L3.at ?_))))))
  show wpAny _ _ (storeInOwnDict (.ref x) (.ref C) (.str name tk) name v false) _ _ _
  obtain ⟨nm, bs, mro, ns, qn, hd, sn, sb, ab, col, dl⟩ := cd
  dsimp only at hh
  subst hh
  unfold storeInOwnDict ownDictForStores
  repeat (first | with_reducible refine HandSPX.store_in_new ?_ ?_ | with_reducible refine wpAny_loadPart_at hx ?_ | with_reducible refine hcls.at ?_ | wp_step)
  · exact ⟨_, #[], _, (Heap.get?_update_ne _ _ _ _ hxs.symm).trans (Heap.get?_push_at rfl rfl), rfl, fun e he => absurd he (by simp), fun _ => rfl⟩
  · intro h' tk' hn' hs
    have hx₁ : (hp.push { cls := .type "dict", data := .dict #[] }).get? x = some { cls := .ref C, data := .fields fv } := Heap.get?_push_of_some _ hx
    exact hq h' tk' hp.objs.size (fun b o hb ho => (hs.2 b (Nat.ne_of_lt (Heap.lt_size ho))).trans ((Heap.get?_update_ne _ _ _ _ hb).trans (Heap.get?_push_of_some _ ho))) (Nat.le_refl _) hxs.symm
      ((hs.2 x hxs).trans (Heap.get?_update_self _ hx₁ rfl)) hn'
end

/-- what the written part says of the exception's class -/
structure OxC (K : W.Frag) (C : Addr) : Prop where
  cls : ∃ nm q N bs bm sn sub ab col dd k0 k1 k2 k3 k5, K.lookup C = some (excClassObj nm q C N bs bm true sn sub ab col dd k0 k1 k2 k3 k5 "Exception.__new__") ∧ refsX bm = true
  sa : W.findIn K (.ref C) "__setattr__" = some (some (.builtin "object.__setattr__"))
  exC : W.subIn K (.ref C) (.type "BaseException") = some true
  tyC : W.typeIn K (.ref C) = some (.type "type")
  kC : W.keepIn K (.ref C) = true
/-- .. of the class that its __init__ calls on -/
structure OxB (K : W.Frag) (B : Addr) : Prop where
  rd : W.readsIn K B (.type "type") = true
  ga : W.specialIn K (.ref B) "__getattribute__" = some (some (.builtin "type.__getattribute__"))
  ini : W.findCls K (.ref B) (.type "type") "__init__" = some (.val (.builtin "Exception.__init__"))
section
variable {X : Cx} {pins : List (Addr × Obj)} {σ : L2.St} {H : Hp} {s : Shared} {a C : Addr} {f : Str} {y : V} {u : Value} {E : Value → Shared → Prop} {A : Around}
theorem ostX {Q : Unit → Shared → Prop} (T : OxC X.K C) (I : Inv X pins σ H s) (e : H a = some (exo a C none)) (hno : W.findIn X.K (.ref C) f = some none) (ry : RelV y u)
    (h : ∀ dx s', H dx = none → dx ≠ a → Inv X pins σ (upd (upd H dx (exd dx [(f, y)])) a (exo a C (some dx))) s' → Q () s') : wpAny (model X.prog X.w) A (setAttr (.ref a) f u) Q E s := by
  obtain ⟨nm, q, N, bs, bm, sn, sub, ab, col, dd, k0, k1, k2, k3, k5, hC, hbm⟩ := T.cls
  have hcl : W.clsIn X.K C = some { name := nm, bases := bs, mro := .ref C :: bm, ns := N, qualname := q, hasDict := true, slotNames := sn, subclasses := sub, abstract := ab, collection := col, hasDel := false } := by unfold W.clsIn; rw [hC] <;> rfl
  obtain ⟨t1, ho⟩ := L2.exo_at I.hok e
  obtain ⟨hp, g, d, t, os⟩ := s
  refine W.set_plain I.kIn (ox := { cls := .ref C, dict := none, data := .fields #[.ref t1, .none, .none, .none, .bool false, .none] }) (od := none) ⟨ho, rfl, rfl, trivial⟩ T.sa ?_
  refine osaX I.kIn ho hcl (show refsX (.ref C :: bm) = true from hbm) rfl hno (fun h' tk' dx k dn dne hx hn => ?_)
  have hnd : H dx = none := I.hok.fresh dn
  have nd : ∀ {b : Addr} {o : Obj}, hp.get? b = some o → b ≠ dx := fun {b o} z => Nat.ne_of_lt (Nat.lt_of_lt_of_le (Heap.lt_size z) dn)
  have na : ∀ {b : Addr}, H b = none → b ≠ a := fun {b} n z => by
    subst z
    rw [e] at n
    cases n
  have U : L2.Un X.fs [] H (upd (upd H dx (exd dx [(f, y)])) a (exo a C (some dx))) hp h' := by
    constructor
    · intro b o z n _ _; exact k b o (na n) z
    · intro b o z n _ _; exact ⟨o.slots, k b o (na n) z⟩
    · intro b o z n _; rw [upd_ne (na n), upd_ne (nd z)]; exact n
    · intro b o z _
      by_cases hb : b = a
      · exact ⟨_, by rw [hb]; exact hx⟩
      · exact ⟨o, k b o hb z⟩
    · intro b xs z; rw [upd_ne (L2.at_ne e z L2.exo_tup), upd_ne (L2.ne_of_none z hnd)]; exact z
    · intro b o v z; rw [upd_ne (L2.at_ne e z L2.exo_frz), upd_ne (L2.ne_of_none z hnd)]; exact z
    · intro b ps z; exact ⟨#[], by rw [upd_ne (L2.at_ne e z L2.exo_tbl), upd_ne (L2.ne_of_none z hnd), z]; simp⟩
  refine h dx _ hnd dne (I.un (t' := tk') U fun b o z => ?_)
  by_cases hb : b = a
  · subst hb
    rw [upd_same] at z
    cases z
    exact L2.exo_ok hx
  · rw [upd_ne hb] at z
    by_cases hd : b = dx
    · subst hd
      rw [upd_same] at z
      cases z
      exact L2.exd_ok hn (L2.relO_put (fs := []) ry fun g => True.intro)
    · rw [upd_ne hd] at z
      refine (I.hok b o z).stay (fun c v hc r => k c v ?_ r) (fun c hc => ?_) (fun c xs hc => ?_)
      · rcases hc with hc | hc
        · rw [hc]; exact hb
        · exact L2.at_ne e hc L2.exo_own
      · rw [upd_ne (L2.at_ne e hc L2.exo_own), upd_ne (L2.ne_of_none hc hnd)]; exact hc
      · rw [upd_ne (L2.at_ne e hc L2.exo_tup), upd_ne (L2.ne_of_none hc hnd)]; exact hc
theorem initX {us : List Value} {Q : Value → Shared → Prop} (T : OxC X.K C) (I : Inv X pins σ H s) (e : H a = some (exo a C none)) (hl : us.length ≤ sizeLine) (h : ∀ s', Inv X pins σ H s' → Q .none s') :
    wpAny (model X.prog X.w) A (call (.builtin "Exception.__init__") (.ref a :: us)) Q E s := by
  obtain ⟨nm, q, N, bs, bm, sn, sub, ab, col, dd, k0, k1, k2, k3, k5, hC, hbm⟩ := T.cls
  obtain ⟨t1, ho⟩ := L2.exo_at I.hok e
  obtain ⟨hp, g, d, t, os⟩ := s
  refine wpAny_call (HandSPX.init_base F.excBase_Exception (fun Y => refsX_has Y bm hbm) (I.kIn _ _ hC) ho hl fun h' t2 k hx => ?_)
  have J := I.write (t' := t) (x := a) (e := a) (o := exo a C none) (by rw [e]; exact True.intro) (.inl rfl) k ⟨_, hx⟩ (L2.exo_ok hx)
  have eu : upd H a (exo a C none) = H := by
    funext b
    by_cases hb : b = a
    · rw [hb, upd_same, e]
    · rw [upd_ne hb]
  rw [eu] at J
  exact h _ J
end
/-- Base.__init__(self, ..) -/
def tXI (K : W.Frag) (ta : TA) : TE := fun σ H Q => ta σ H fun vs H1 => ∃ (a C : Addr) (ws : List V), vs = .ref a :: ws ∧ ws.length ≤ 1000 ∧ OxC K C ∧ H1 a = some (exo a C none) ∧ Q .non H1
/-- self.f = e, the first field -/
def tXS (K : W.Frag) (f : Str) (to te : TE) : TS := fun D σ H => te σ H fun y H1 => to σ H1 fun x H2 => ∃ a C : Addr, x = .ref a ∧ OxC K C ∧ W.findIn K (.ref C) f = some none ∧
  H2 a = some (exo a C none) ∧ ∀ dx, H2 dx = none → dx ≠ a → D.nx σ (upd (upd H2 dx (exd dx [(f, y)])) a (exo a C (some dx)))
section
variable {X : Cx} {o e : Expr} {es : List Expr} {to te : TE} {ta : TA} {f bn : Str} {B : Addr} {p p' p1 p2 pos : Pos}
theorem pe_xinit {pl : Sem Bool} (hg : Gl X bn) (hm : X.mg bn = some (.ref B)) (T : OxB X.K B) (ha : PA X (e :: es) ta)
    (hc : eval (.Call (.Attribute (.Name bn p1) "__init__" p2) (e :: es) [] pos) X.env = (do
      let ov ← eval (.Name bn p1) X.env
      standAt p2.atName
      let (f, first) ← holding [ov] (getMethod ov "__init__" pl)
      callWith pos f first (backTo pos (starEach (e :: es) X.env)) (backToKw pos (keywordEach [] X.env))) := by rfl)
    (he : starEach (e :: es) X.env = (false, eval e X.env) :: starEach es X.env := by rfl) (hpl : (backTo pos (starEach es X.env)).any (·.1) = false := by rfl) (hdb : (bn == ("__debug__" : Str)) = false := by decide) :
    PE X (.Call (.Attribute (.Name bn p1) "__init__" p2) (e :: es) [] pos) (tXI X.K ta) := by
  refine ⟨fun pins s σ H Q I h => ?_⟩
  refine W.methodCall_KW (L2.ld_glob I hg hm ?_ hdb) hc
  refine W.method_cls I.kIn T.ga (W.cls_value I.kIn T.rd T.ini (by decide +kernel) ?_)
  show wpAny _ _ (callWith pos (Value.builtin "Exception.__init__") [] (backTo pos (starEach (e :: es) X.env)) []) _ _ _
  refine PyProof.Rows.callWith_method1 (L2.thn (ha.run pos pins _ σ H _ (I.tok _) h) fun us s1 ⟨vs, H1, I1, r1, a, C, ws, ev, hl, T, ea, q⟩ => ?_) he hpl
  subst ev
  cases r1 with
  | @cons _ u0 _ ur ra rw' =>
    obtain rfl : u0 = Value.ref a := ra
    exact initX T I1 ea (by rw [← Paired.length rw', sizeLine_eq]; omega) fun s' J => ⟨.non, H1, J, rfl, q⟩
theorem ps_xset (ho : PE X o to) (he : PE X e te) (hs : swapsWith e (some (.Attribute o f p')) pos.line X.env = pure false := by rfl) : PS X (.Assign [.Attribute o f p'] e pos) (tXS X.K f to te) := by
  refine ⟨fun pins s σ H D I h => ?_⟩
  refine plainObj_wpAny_Assign_Attribute (L2.thn (he.run pins s σ H _ I h) fun v s1 ⟨y, H1, I1, r1, q1⟩ => L2.thn (ho.run pins s1 σ H1 _ I1 q1) fun u s2 ⟨x, H2, I2, r2, a, C, ex, T, hno, ea, q⟩ => ?_) hs
  subst ex
  obtain rfl : u = Value.ref a := r2
  exact ostX T I2 ea hno r1 fun dx s' n ne J => ⟨σ, _, J, q dx n ne⟩
end
/-- what such an __init__ keeps -/
def spX (K : W.Frag) (f : Str) : Sp := fun vs H Q _ => ∃ (a C : Addr) (y : V), vs = [.ref a, y] ∧ OxC K C ∧ W.findIn K (.ref C) f = some none ∧ H a = some (exo a C none) ∧
  ∀ dx, H dx = none → dx ≠ a → Q .non (upd (upd H dx (exd dx [(f, y)])) a (exo a C (some dx)))
/-- the body of such an __init__ -/
def bodyX (bn f y : Str) : List Stmt → Bool
  | [.Expr (.Call (.Attribute (.Name b _) i _) [.Name s _, .Name x _] [] _) _, .Assign [.Attribute (.Name s' _) g _] (.Name x' _) _] => b == bn && i == "__init__" && s == "self" && x == y && s' == "self" && g == f && x' == y
  | _ => false
theorem okX {P : Program} {w : World} {K : W.Frag} {mg : Str → Option Value} {base : Heap} {qual : Str} {params : Arguments} {scope : Scope} {fa B : Addr} {fd : FuncData} {CX : L2.CXT} {bn f y : Str} {q1 q2 q3 q4 q5 q6 q7 q8 q9 q10 : Pos}
    (F : L2.FunD K "__init__" qual params [.Expr (.Call (.Attribute (.Name bn q1) "__init__" q2) [.Name "self" q3, .Name y q4] [] q5) q6, .Assign [.Attribute (.Name "self" q7) f q8] (.Name y q9) q10] scope [] [] fa fd)
    (S : L2.FnScope ["self", y] ["self", y] scope) (hb : mg bn = some (.ref B)) (T : OxB K B) (hg : scope.names.lookup bn = some .globalImplicit) (h1 : L2.Vis scope "self") (h2 : L2.Vis scope y)
    (hdy : (y == ("__debug__" : Str)) = false) (hcy : (y == ("__classdict__" : Str)) = false) (hdb : (bn == ("__debug__" : Str)) = false) {pl : PySem.Env → Sem Bool}
    (hc : ∀ env, eval (.Call (.Attribute (.Name bn q1) "__init__" q2) [.Name "self" q3, .Name y q4] [] q5) env = (do
      let ov ← eval (.Name bn q1) env
      standAt q2.atName
      let (f, first) ← holding [ov] (getMethod ov "__init__" (pl env))
      callWith q5 f first (backTo q5 (starEach [.Name "self" q3, .Name y q4] env)) (backToKw q5 (keywordEach [] env))))
    (hs : ∀ env, swapsWith (.Name y q9) (some (.Attribute (.Name "self" q7) f q8)) q10.line env = pure false) (hs2 : ∀ env, swapsWith (.Call (.Attribute (.Name bn q1) "__init__" q2) [.Name "self" q3, .Name y q4] [] q5) none q6.line env = pure false) : FnOk P w K mg base CX 1 fa fd ["self", y] (spX K f) := by
  refine F.ok S (fun vs H Q E ⟨a, C, z, e, _⟩ => by rw [e]; rfl) fun cdv A outer s H vs Q E hr ⟨a, C, z, e, hC, hno, ha, hq⟩ => ?_
  have v0 : ∀ {p : Pos}, PE (L2.cxOf CX P w K mg base ["self", y] qual scope fa cdv A outer s H E) (.Name "self" p) (L2.tVar 0) := fun {p} => L2.pe_var rfl h1
  have v1 : ∀ {p : Pos}, PE (L2.cxOf CX P w K mg base ["self", y] qual scope fa cdv A outer s H E) (.Name y p) (L2.tVar 1) := fun {p} => L2.pe_var rfl h2 hdy hcy
  refine ⟨_, L2.pss_cons (L2.ps_expr (pe_xinit (B := B) hg hb T (L2.pa_cons v0 (L2.pa_cons v1 L2.pa_nil)) (hc _) (hdb := hdb)) (hs2 _)) (L2.pss_one (ps_xset v0 v1 (hs _))), ?_⟩
  subst e
  exact ⟨_, rfl, _, rfl, a, C, [z], rfl, by simp, hC, ha, _, rfl, _, rfl, a, C, rfl, hC, hno, ha, fun dx n ne => hq dx n ne⟩
end Mi
end
section
set_option maxHeartbeats 4000000
namespace Mi
open PySem PySem.Spec PyProof.Rows
open L2 (V Hp HO SqL SqT upd upd_same upd_ne Cx TE TT TA TS PE PT PA PS PSs VK XK WX Inv ObjOk EP SP RelV Vals exo exd del Gl Sp FnOk Room Binds Passes PMk MkP Raises Ends Zc Takes Names)

/-- C(e): the exception, its dict holding f -/
def tMkX (C : Addr) (f : Str) (ta : TA) : L2.St → Hp → XK → Prop := fun σ H Q => ta σ H fun vs H1 => ∃ y, vs = [y] ∧ ∀ dx, H1 dx = none → Q (.ref C) (some dx) (upd H1 dx (.xd [(f, y)]))
theorem pmkX {X : Cx} {CX : L2.CXT} {x f : Str} {C fI : Addr} {k : Nat} {fd : FuncData} {ps : List Str} {e : Expr} {es : List Expr} {ta : TA} {p pos : Pos} (T : OxC X.K C) (hno : W.findIn X.K (.ref C) f = some none) (iC : W.findIn X.K (.ref C) "__init__" = some (some (.ref fI)))
    (tI : W.typeIn X.K (.ref fI) = some (.type "function")) (F1 : FnOk X.prog X.w X.K X.mg X.base CX k fI fd ps (spX X.K f)) (hr : Room (k + 1) X.A) (hb : Binds X.K fd ps []) (hx : Passes CX X (fun _ _ _ => False)) (hg : Gl X x) (hm : X.mg x = some (.ref C)) (ha : PA X (e :: es) ta)
    (hdb : (x == ("__debug__" : Str)) = false := by decide) (he : starEach (e :: es) X.env = (false, eval e X.env) :: starEach es X.env := by rfl) (hpl : (backTo pos (starEach es X.env)).any (·.1) = false := by rfl) : PMk X (.Call (.Name x p) (e :: es) [] pos) (tMkX C f ta) := by
  intro pins s σ H Q I h
  obtain ⟨nm, q, N, bs, bm, sn, sub, ab, col, dd, k0, k1, k2, k3, k5, hC, hbm⟩ := T.cls
  refine wpAny_Call_Name_kw (L2.ld_glob I hg hm ?_ hdb)
  refine W.callWith_K (h₀ := X.base) I.ok.mod.kin T.kC (L2.thn (ha.run pos pins s σ H _ I h) fun us s1 ⟨vs, H1, I1, r1, y, ev, q1⟩ => ⟨I1.kIn, ?_⟩) he hpl
  subst ev
  obtain ⟨u, rfl, ru⟩ := r1.one
  show wpAny _ _ (call (.ref C) [u]) _ _ _
  obtain ⟨hp, g, dr, tk, os⟩ := s1
  have hsz : hp.objs.size ≤ hp.objs.size + 1 := Nat.le_succ _
  have hn : H1 (hp.objs.size + 1) = none := I1.hok.fresh hsz
  have kk : ∀ b o, hp.get? b = some o → ((hp.push (W.kdv_tup [u])).push (HandSPX.excO C hp.objs.size)).get? b = some o := fun b o z => Heap.get?_push_of_some _ (Heap.get?_push_of_some _ z)
  have hget : ((hp.push (W.kdv_tup [u])).push (HandSPX.excO C hp.objs.size)).get? (hp.objs.size + 1) = some (HandSPX.excO C hp.objs.size) := by heap_get
  have I2 : Inv X pins σ (upd H1 (hp.objs.size + 1) (exo (hp.objs.size + 1) C none)) ⟨(hp.push (W.kdv_tup [u])).push (HandSPX.excO C hp.objs.size), g, dr, tk, os⟩ :=
    I1.laid (t' := tk) (a := hp.objs.size + 1) (o := exo (hp.objs.size + 1) C none) kk hsz (L2.exo_ok hget)
  have r2 : Vals [V.ref (hp.objs.size + 1), y] [Value.ref (hp.objs.size + 1), u] := .cons rfl (.cons ru .nil)
  have hsp : spX X.K f [V.ref (hp.objs.size + 1), y] (upd H1 (hp.objs.size + 1) (exo (hp.objs.size + 1) C none))
      (fun v H2 => v = .non ∧ ∃ (d : Addr) (fs : List (Str × V)), H2 (hp.objs.size + 1) = some (exo (hp.objs.size + 1) C (some d)) ∧ H2 d = some (exd d fs) ∧ H1 d = none ∧ Q (.ref C) (some d) (upd (del H2 (hp.objs.size + 1)) d (.xd fs))) (fun _ _ _ => False) := by
    refine ⟨_, C, y, rfl, T, hno, upd_same, fun dx hdx hne => ⟨rfl, dx, [(f, y)], upd_same, by rw [upd_ne hne, upd_same], by rw [upd_ne hne] at hdx; exact hdx, ?_⟩⟩
    have hd1 : H1 dx = none := by rw [upd_ne hne] at hdx; exact hdx
    have e1 : upd (del (upd (upd (upd H1 (hp.objs.size + 1) (exo (hp.objs.size + 1) C none)) dx (exd dx [(f, y)])) (hp.objs.size + 1) (exo (hp.objs.size + 1) C (some dx))) (hp.objs.size + 1)) dx (.xd [(f, y)]) = upd H1 dx (.xd [(f, y)]) := by
      funext b
      by_cases h1 : b = dx
      · rw [h1, upd_same, upd_same]
      · rw [upd_ne h1, upd_ne h1]
        by_cases h2 : b = hp.objs.size + 1
        · rw [h2, L2.del_same, hn]
        · rw [L2.del_ne h2, upd_ne h2, upd_ne h1, upd_ne h2]
    rw [e1]
    exact q1 dx hd1
  have hl := F1.len _ _ _ _ hsp
  have hb' := hb _ [Value.ref (hp.objs.size + 1), u] I2.kIn (by rw [List.append_nil]; exact hl)
  rw [List.append_nil] at hb'
  refine wpAny_call (HandSPX.call_own F.excBase_Exception (fun Y => refsX_has Y bm hbm) (I1.kIn _ _ hC) (W.looks_findIn I1.kIn iC) (fun self => W.bind_fn I1.kIn self tI) (by show 1 ≤ sizeLine; decide)
    (codeAny_mono (F1.run _ X.stack _ _ ⟨[Value.ref (hp.objs.size + 1), u], []⟩ [Value.ref (hp.objs.size + 1), u] _ _ (fun _ _ _ => False) (hr.make C [u] []) (I2.env0.make C [u] []) hb' r2 hsp) fun r s' hq' => ?_))
  cases r with
  | error er => exact hx pins σ _ _ er s' I2 hq'
  | ok fl =>
    cases fl with
    | ret z =>
      obtain ⟨v, H2, os2, bare2, un2, hok2, rv, ev, d, fs, ea, ed, hd1, q2⟩ := hq'
      subst ev
      obtain ⟨h2, g2, d2, t2, os'⟩ := s'
      exact ⟨rv, L2.mk_end (L2.raises_own T.exC T.tyC) I1 hsz kk un2 hok2 os2 bare2 ea ed hd1 q2⟩
    | next => exact hq'.elim
    | brk => exact hq'.elim
    | cont => exact hq'.elim

/-- the module's exception c, with its field f -/
structure ExR (G : Gd) (k : Nat) (c f : Str) : Prop where
  ex : ∃ C fI fd ps, FnOk G.P G.w G.K G.mg G.base (L2.CX G.P G.w) k fI fd ps (spX G.K f) ∧ G.mg c = some (.ref C) ∧ OxC G.K C ∧ W.findIn G.K (.ref C) f = some none ∧ W.findIn G.K (.ref C) "__init__" = some (some (.ref fI)) ∧
    W.typeIn G.K (.ref fI) = some (.type "function") ∧ Binds G.K fd ps []
def sRaise (c f : Str) (a : TM) : TSm := fun env M K => a env M (fun d M1 => K.ex (.ins c [f] [d]) M1) K.ex
section
variable {G : Gd} {k j : Nat} {N : List Str} {sc : Scope} {A : Anc} {X : Cx} (B : Ct G k N sc A X) {c f : Str} {e : Expr} {ma : TM} {p pos pos' : Pos}
include B
theorem k_raise (R : ExR G j c f) (hj : j + 1 ≤ k) (hg : glB sc c = true) (ha : ME A X e ma) (hdb : (c == ("__debug__" : Str)) = false := by decide) (he : starEach [e] X.env = (false, eval e X.env) :: starEach [] X.env := by rfl) :
    MS A X (.Raise (some (.Call (.Name c p) [e] [] pos)) none pos') (sRaise c f ma) := by
  obtain ⟨C, fI, fd, ps, F1, hm, T, hno, iC, tI, hb⟩ := R.ex
  have F2 : FnOk X.prog X.w X.K X.mg X.base (L2.CX X.prog X.w) j fI fd ps (spX X.K f) := by rw [B.prog, B.w, B.K, B.mg, B.base]; exact F1
  have hx : Passes (L2.CX X.prog X.w) X (fun _ _ _ => False) := L2.passes_call B.tk fun _ _ _ _ z => z.elim
  refine ps_imp (L2.ps_raise B.calm B.tk (pmkX (C := C) (by rw [B.K]; exact T) (by rw [B.K]; exact hno) (by rw [B.K]; exact iC) (by rw [B.K]; exact tI) F2 (B.room.mono hj) (by rw [B.K]; exact hb) hx (B.gl hg) (by rw [B.mg]; exact hm) (L2.pa_cons ha L2.pa_nil he) hdb he)) ?_
  intro D σ H ⟨W, env, M, K, s, h, hex, k1, k2⟩
  refine ⟨W, env, M, _, s, xe (P := ma env M _) hex h, fun W1 d M1 v H1 s1 rm1 r1 h1 => ⟨v, rfl, fun dx hdx => ?_⟩⟩
  obtain ⟨a1, a2, a3, a4⟩ := rm1.loose (o := .xd [(f, v)]) hdx
  have S1 := s.next s1 rm1
  exact ⟨W1, _, M1, S1.st.trans a2, a1, ⟨c, [f], [d], dx, [v], rfl, by rw [S1.mg B.fit, B.mg]; exact hm, rfl, upd_same, a4, rfl, .cons r1 .nil⟩, by rw [← hex]; exact h1⟩
end
end Mi
end
section
set_option maxHeartbeats 4000000
namespace Mi
open PySem PySem.Spec PyProof.Rows
open L2 (V Hp HO SqL SqT upd upd_same upd_ne Cx TE TT TA TS PE PT PA PS PSs VK XK WX Inv ObjOk EP SP RelV Vals Gl Sp FnOk Room Binds Passes Ends Zc Takes Names)

/-- a clause: the class, the slot and name of the exception, what the suite does -/
structure Cl where
  c : Value
  nm : Option (Str × Nat)
  ts : Addr → Value → Option Addr → TS
/-- the ends behind a suite: the exception's name goes -/
def Cl.ends (l : Cl) (D : Ends) : Ends := match l.nm with
  | none => D
  | some (_, i) => { nx := fun σ H => D.nx (σ.set i none) H, rt := D.rt, bk := fun σ H => D.bk (σ.set i none) H, ct := fun σ H => D.ct (σ.set i none) H }
def Cl.st (l : Cl) (a : Addr) (σ : L2.St) : L2.St := match l.nm with
  | none => σ
  | some (_, i) => σ.set i (some (.ref a))
def wCls (K : W.Frag) (n : Nat) (Wout : WX) (D : Ends) : List Cl → WX
  | [] => Wout
  | l :: r => fun cls d σ H => ∃ b, W.exmOne K cls l.c = some b ∧ (b = true → σ.length = n → ∀ a, H a = none → l.ts a cls d (l.ends D) (l.st a σ) H) ∧ (b = false → wCls K n Wout D r cls d σ H)
inductive HdX (X : Cx) : List ExceptHandler → List Cl → Prop
  | nil : HdX X [] []
  | plain {x : Str} {c : Value} {ts : Addr → Value → Option Addr → TS} {b₀ : Stmt} {su : List Stmt} {np pos' : Pos} {hds : List ExceptHandler} {l : List Cl} (hc : Names X x c)
      (hsu : ∀ (a : Addr) (oe : Obj) (cls : Value) (d : Option Addr) (pn : List (Addr × Obj)), Zc cls d oe → (∃ vs, oe.data = .fields vs) → PSs (X.suite a ((a, oe) :: pn)) (b₀ :: su) (ts a cls d)) (r : HdX X hds l) :
      HdX X (.ExceptHandler (some (.Name x np)) none (b₀ :: su) pos' :: hds) (⟨c, none, ts⟩ :: l)
  | named {x n : Str} {i : Nat} {c : Value} {ts : Addr → Value → Option Addr → TS} {b₀ : Stmt} {su : List Stmt} {np pos' : Pos} {hds : List ExceptHandler} {l : List Cl} (hc : Names X x c) (hi : X.N[i]? = some n) (hln : X.env.kindOf n = some .local)
      (hsu : ∀ (a : Addr) (oe : Obj) (cls : Value) (d : Option Addr) (pn : List (Addr × Obj)), Zc cls d oe → (∃ vs, oe.data = .fields vs) → PSs (X.suite a ((a, oe) :: pn)) (b₀ :: su) (ts a cls d)) (r : HdX X hds l) :
      HdX X (.ExceptHandler (some (.Name x np)) (some n) (b₀ :: su) pos' :: hds) (⟨c, some (n, i), ts⟩ :: l)
theorem nameTest {X : Cx} {x : Str} {c : Value} (hc : Names X x c) {pins : List (Addr × Obj)} {σ : L2.St} {H : Hp} {s : Shared} {a : Addr} {oe : Obj} {pn : List (Addr × Obj)} {np : Pos} {Q E : Value → Shared → Prop} (S : Inv (X.suite a ((a, oe) :: pn)) pins σ H s) (q : Q c s) :
    wpAny (model X.prog X.w) (X.A.mark (some (.ref a))) (eval (.Name x np) X.env) Q E s := by
  obtain ⟨hg, hdbg, hm | ⟨hm, hv, hnn⟩⟩ := hc
  · exact L2.ld_glob (X := X.suite a ((a, oe) :: pn)) S hg hm q hdbg
  · exact L2.ld_blt (X := X.suite a ((a, oe) :: pn)) S hg hm hv q hnn hdbg
theorem ps_tryX {X : Cx} {body : List Stmt} {h₀ : ExceptHandler} {hds : List ExceptHandler} {l : List Cl} {pos : Pos} {tb : WX → TS} {Wout : WX} (hs : X.stack = X.env :: X.outer) (hf : X.env.frame = some X.env.locals) (hN : X.N.Nodup) (tk : Takes X Wout)
    (hb : ∀ (W : WX) (pn : List (Addr × Obj)) (xe : Value → Shared → Prop), Takes (X.tr pn xe) W → PassesOwn (model X.prog X.w) X.A X.env xe → PSs (X.tr pn xe) body (tb W))
    (hh : HdX X (h₀ :: hds) l) : PS X (.Try body (h₀ :: hds) [] [] pos) (fun D σ H => tb (wCls X.K X.N.length Wout D l) D σ H) := by
  refine ⟨fun pins s σ H D I h => ?_⟩
  have ok := I.ok
  have hfr : X.A.frames = some (X.env :: X.outer) := by rw [ok.frames, hs]
  refine wpAny_Try_except ?_
  refine wpAny_mono ((hb (wCls X.K X.N.length Wout D l) (X.pn ++ pins) (fun e z1 => wpAny (model X.prog X.w) X.A (noteFrame e X.env) (fun _ z2 => wpAny (model X.prog X.w) X.A (setFlight e none) (fun _ z3 =>
    wpAny (model X.prog X.w) X.A (handleBy e X.env (h₀ :: hds)) (SP X pins D) X.xe z3) X.xe z2) X.xe z1) (fun u s' air => ?_) PassesOwn.looking).run [] s σ H D (I.toTry _) h) (fun f s1 hsp => ?_) (fun e s1 he => he)
  · obtain ⟨a, Bs, sI, pins', σ', H', cls, d, rfl, J', nb, up, sky, na, os, ag, wish⟩ := air
    have J : Inv X pins σ' H' sI := J'.ofTry ok
    show wpAny (model X.prog X.w) X.A (noteFrame (.ref a) X.env) _ _ _
    refine L2.Sky.land Zc.steady hfr hf (show L2.Sky Bs (X.env :: X.outer) a (Zc cls d) X.env.locals s'.heap by rw [← hs]; exact sky) fun h3 fl3 up3 => ?_
    have J3 : Inv X pins σ' H' { s' with heap := h3 } := J.landed nb fl3.1 (up.trans up3) os ag
    obtain ⟨oe3, vs3, he3, hz3, hd3⟩ := fl3.there
    have apart : a ∉ L2.frs (X.env :: X.outer) := fun hm => by
      obtain ⟨_, o', e', hnf⟩ := fl3.2.2.1.mem hm
      rw [he3] at e'; cases e'
      exact hnf _ hd3
    have nL : a ≠ X.env.locals := fun z => apart (List.mem_filterMap.mpr ⟨X.env, List.mem_cons_self, by rw [hf, z]⟩)
    have nF : a ∉ X.fs := fun hm => by
      obtain ⟨e, he, q⟩ := List.mem_filterMap.mp hm
      exact apart (List.mem_filterMap.mpr ⟨e, List.mem_cons_of_mem _ he, q⟩)
    have S3 := J3.suite he3 hd3 na nL nF
    have go : ∀ {hds' : List ExceptHandler} {l' : List Cl}, HdX X hds' l' → wCls X.K X.N.length Wout D l' cls d σ' H' →
        wpAny (model X.prog X.w) X.A (handleBy (.ref a) X.env hds') (SP X pins D) X.xe { s' with heap := h3 } := by
      intro hds' l' hk
      induction hk with
      | nil =>
        intro wi
        refine wpAny_handleBy_nil ?_
        obtain ⟨_, _, _, oe, vs, T, oT, ts', he, hz, hd, h1, hr⟩ := id fl3
        unfold PySem.passOn
        refine wpAny_bind (wpAny_field he hd h1 ?_)
        rw [if_neg (show ¬ ((Value.ref T == Value.none) = true) from by simp)]
        have fin : wpAny (model X.prog X.w) X.A (setFlight (.ref a) X.env.frame) (fun _ s4 => wpAny (model X.prog X.w) X.A (throw (.ref a) : Sem Flow) (SP X pins D) X.xe s4) X.xe { s' with heap := h3 } := by
          rw [hf]
          exact HandSPX.setFlight_upZ fl3 fun h4 hh4 up4 => wpAny_throw (tk _ _ ⟨a, Bs, sI, pins, σ', H', cls, d, rfl, J, nb, (up.trans up3).trans up4, .inr (.inr (by rw [hs]; exact hh4)), na, os, ag, wi⟩)
        first
          | exact wpAny_bind (wpAny_pure (wpAny_bind fin))
          | exact wpAny_bind fin
      | @plain x c ts b₀ su np pos' hds2 l2 hc hsu r ih =>
        intro ⟨b, hb1, hyes, hno⟩
        refine wpAny_handleBy_cons (codeAny_handlers_test ?_) (by intro q; cases q)
        have LT : W.Looks (model X.prog X.w) h3 (typeOf (.ref a)) cls := fun A Q E s k q => wpAny_typeOf_ref (k _ _ he3) (by rw [hz3.1]; exact q)
        refine nameTest (pn := X.pn ++ pins) hc S3 ((W.exm_one (M := model X.prog X.w) J3.kIn LT hb1).here ?_)
        cases b with
        | true =>
          refine codeAny_handlers_suite (HandSPX.lands_againZ fl3 fun h4 fl4 up4 => ?_)
          have J4 : Inv X pins σ' H' { s' with heap := h4 } := J.landed nb fl4.1 ((up.trans up3).trans up4) os ag
          obtain ⟨oe4, vs4, he4, hz4, hd4⟩ := fl4.there
          have S4 := J4.suite he4 hd4 na nL nF
          refine wpAny_mono ((hsu a oe4 cls d (X.pn ++ pins) hz4 ⟨_, hd4⟩).run [] _ _ H' _ S4 (hyes rfl J.len a na)) (fun f s6 hsp => ?_) (fun _ _ z => False.elim z)
          cases f with
          | ret u => obtain ⟨v6, σ6, H6, S6, r6, q6⟩ := hsp; exact ⟨_, _, _, S6.unsuite ok, r6, q6⟩
          | next => obtain ⟨σ6, H6, S6, q6⟩ := hsp; exact ⟨_, _, S6.unsuite ok, q6⟩
          | brk => obtain ⟨σ6, H6, S6, q6⟩ := hsp; exact ⟨_, _, S6.unsuite ok, q6⟩
          | cont => obtain ⟨σ6, H6, S6, q6⟩ := hsp; exact ⟨_, _, S6.unsuite ok, q6⟩
        | false => exact ih (hno rfl)
      | @named x n i c ts b₀ su np pos' hds2 l2 hc hi hln hsu r ih =>
        intro ⟨b, hb1, hyes, hno⟩
        refine wpAny_handleBy_cons (codeAny_handlers_test ?_) (by intro q; cases q)
        have LT : W.Looks (model X.prog X.w) h3 (typeOf (.ref a)) cls := fun A Q E s k q => wpAny_typeOf_ref (k _ _ he3) (by rw [hz3.1]; exact q)
        refine nameTest (pn := X.pn ++ pins) hc S3 ((W.exm_one (M := model X.prog X.w) J3.kIn LT hb1).here ?_)
        cases b with
        | true =>
          refine codeAny_handlers_suite_as (HandSPX.lands_againZ fl3 fun h4 fl4 up4 => ?_)
          have J4 : Inv X pins σ' H' { s' with heap := h4 } := J.landed nb fl4.1 ((up.trans up3).trans up4) os ag
          obtain ⟨oe4, vs4, he4, hz4, hd4⟩ := fl4.there
          have S4 := J4.suite he4 hd4 na nL nF
          refine L2.store_ok (X := X.suite a ((a, oe4) :: (X.pn ++ pins))) (v := .ref a) S4 hN hi (.inl hln) rfl (fun s5 S5 => ?_) (.inr hln)
          refine wpAny_mono ((hsu a oe4 cls d (X.pn ++ pins) hz4 ⟨_, hd4⟩).run [] s5 _ H' _ S5 (hyes rfl J.len a na)) (fun f s6 hsp => ?_) (fun _ _ z => False.elim z)
          have end_ : ∀ {σ6 : L2.St} {H6 : Hp} {Q : Shared → Prop}, Inv (X.suite a ((a, oe4) :: (X.pn ++ pins))) [] σ6 H6 s6 → (∀ s7, Inv X pins (σ6.set i none) H6 s7 → Q s7) →
              wpAny (model X.prog X.w) X.A (do bindName X.env n .none; unbindBehindTheSuite X.env n pos') (fun _ s7 => Q s7) X.xe s6 := fun S6 hq => L2.gone_ok (S6.unsuite ok) hN hi hln hq
          cases f with
          | ret u => obtain ⟨v6, σ6, H6, S6, r6, q6⟩ := hsp; exact end_ S6 fun s7 J7 => ⟨_, _, _, J7, r6, q6⟩
          | next => obtain ⟨σ6, H6, S6, q6⟩ := hsp; exact end_ S6 fun s7 J7 => ⟨_, _, J7, q6⟩
          | brk => obtain ⟨σ6, H6, S6, q6⟩ := hsp; exact end_ S6 fun s7 J7 => ⟨_, _, J7, q6⟩
          | cont => obtain ⟨σ6, H6, S6, q6⟩ := hsp; exact end_ S6 fun s7 J7 => ⟨_, _, J7, q6⟩
        | false => exact ih (hno rfl)
    exact go hh wish
  · cases f with
    | next => obtain ⟨σ', H', J', q⟩ := hsp; exact wpAny_execs_nil ⟨σ', H', J'.ofTry ok, q⟩
    | brk => obtain ⟨σ', H', J', q⟩ := hsp; exact ⟨σ', H', J'.ofTry ok, q⟩
    | cont => obtain ⟨σ', H', J', q⟩ := hsp; exact ⟨σ', H', J'.ofTry ok, q⟩
    | ret u => obtain ⟨v, σ', H', J', r, q⟩ := hsp; exact ⟨v, σ', H', J'.ofTry ok, r, q⟩

/-- a clause: the class's name, the slot, the suite -/
structure ClD where
  c : Str
  i : Option Nat
  h : D → TSm
def hdK (i : Option Nat) (K : Kt) : Kt := match i with
  | none => { K with ex := noX }
  | some i => { K with nx := fun env M => K.nx (env.set i none) M, ex := noX }
/-- the exceptions told of -/
def exB (c : Str) : Bool := (["Malformed", "Refused", "NoText"] : List Str).contains c
def hdW (n : Nat) (K : Kt) : List ClD → XQ
  | [] => K.ex
  | l :: r => fun d M => match d with
    | .ins c fs xs => exB c = true ∧ if c = l.c then l.h (.ins c fs xs) (List.replicate n none) M (hdK l.i K) else hdW n K r (.ins c fs xs) M
    | _ => False
def sTry (n : Nat) (tb : TSm) (hs : List ClD) : TSm := fun env M K => tb env M { K with ex := hdW n K hs }
/-- what the written part says of the exceptions' classes -/
def ExT (G : Gd) : Prop := ∀ c c' v C', exB c = true → exB c' = true → G.mg c = some v → G.mg c' = some (.ref C') → W.exmOne G.K v (.ref C') = some (decide (c = c'))
theorem Ct.tr {G : Gd} {k : Nat} {N : List Str} {sc : Scope} {A A' : Anc} {X : Cx} (B : Ct G k N sc A X) {pn : List (Addr × Obj)} {xe : Value → Shared → Prop} (hF : Fit A' X) (T : Tk A' (X.tr pn xe)) : Ct G k N sc A' (X.tr pn xe) :=
  ⟨⟨hF.K, hF.mg⟩, T, B.calm, B.nd, B.N, B.sc, B.room, B.prog, B.w, B.K, B.mg, B.base⟩
/-- a suite's reading -/
abbrev HSu (X : Cx) (b₀ : Stmt) (su : List Stmt) (h : D → TSm) : Prop := ∀ (A : Anc) (d : D) (a : Addr) (oe : Obj) (cls : Value) (dd : Option Addr) (pn : List (Addr × Obj)), Fit A X → Zc cls dd oe → (∃ vs, oe.data = .fields vs) → MSs A.nox (X.suite a ((a, oe) :: pn)) (b₀ :: su) (h d)
/-- a suite's end in wishes -/
def clT (X : Cx) (C : Addr) (nm : Option (Str × Nat)) (h : D → TSm) : Cl := ⟨.ref C, nm, fun _ _ _ => fun D σ H => ∃ A d, Fit A X ∧ lfs A.nox (h d) D σ H⟩
/-- the clauses and what they say -/
inductive HdM (G : Gd) (X : Cx) : List ExceptHandler → List ClD → List Cl → Prop
  | nil : HdM G X [] [] []
  | plain {x : Str} {C : Addr} {h : D → TSm} {b₀ : Stmt} {su : List Stmt} {np pos' : Pos} {hds : List ExceptHandler} {ls : List ClD} {l : List Cl} (hx : exB x = true) (hc : G.mg x = some (.ref C)) (hg : Gl X x)
      (hsu : HSu X b₀ su h) (r : HdM G X hds ls l) :
      HdM G X (.ExceptHandler (some (.Name x np)) none (b₀ :: su) pos' :: hds) (⟨x, none, h⟩ :: ls) (clT X C none h :: l)
  | named {x n : Str} {i : Nat} {C : Addr} {h : D → TSm} {b₀ : Stmt} {su : List Stmt} {np pos' : Pos} {hds : List ExceptHandler} {ls : List ClD} {l : List Cl} (hx : exB x = true) (hc : G.mg x = some (.ref C)) (hg : Gl X x) (hi : X.N[i]? = some n) (hln : X.env.kindOf n = some .local)
      (hsu : HSu X b₀ su h) (r : HdM G X hds ls l) :
      HdM G X (.ExceptHandler (some (.Name x np)) (some n) (b₀ :: su) pos' :: hds) (⟨x, some i, h⟩ :: ls) (clT X C (some (n, i)) h :: l)
theorem exB_dbg {x : Str} (h : exB x = true) : (x == ("__debug__" : Str)) = false := by
  unfold exB at h
  have : x = "Malformed" ∨ x = "Refused" ∨ x = "NoText" := by simpa using h
  rcases this with rfl | rfl | rfl <;> decide
theorem HdM.x {G : Gd} {X : Cx} (hmg : X.mg = G.mg) {hds : List ExceptHandler} {ls : List ClD} {l : List Cl} (h : HdM G X hds ls l) : HdX X hds l := by
  induction h with
  | nil => exact .nil
  | plain hx hc hg hsu r ih => exact .plain ⟨hg, exB_dbg hx, .inl (by rw [hmg]; exact hc)⟩ (fun a oe cls dd pn z f => ⟨fun pins s σ H Q I ⟨A, d, hF, hd⟩ => (hsu A d a oe cls dd pn hF z f).run pins s σ H Q I hd⟩) ih
  | named hx hc hg hi hln hsu r ih => exact .named ⟨hg, exB_dbg hx, .inl (by rw [hmg]; exact hc)⟩ hi hln (fun a oe cls dd pn z f => ⟨fun pins s σ H Q I ⟨A, d, hF, hd⟩ => (hsu A d a oe cls dd pn hF z f).run pins s σ H Q I hd⟩) ih
theorem RelE.none {W : Wd} {σ : L2.St} {n : Nat} (h : σ.length = n) : RelE W (List.replicate n Option.none) σ := ⟨by simp [h], fun i d e => by rw [List.getElem?_replicate] at e; split at e <;> cases e⟩
theorem RelE.un {W : Wd} {env : Env} {σ : L2.St} (r : RelE W env σ) (i : Nat) : RelE W (env.set i Option.none) (σ.set i Option.none) := r.wipe [i]
section
variable {G : Gd} {k : Nat} {N : List Str} {sc : Scope} {A : Anc} {X : Cx} (B : Ct G k N sc A X)
include B
theorem wish_ok (T : ExT G) {K : Kt} {D : Ends} {W0 : Wd} {H0 : Hp} (hA : Step A.W A.H W0 H0) (hex : K.ex = A.E)
    (k1 : ∀ W' env' M' σ' H', Step W0 H0 W' H' → RelM W' M' H' → RelE W' env' σ' → K.nx env' M' → D.nx σ' H') (k2 : ∀ W' d M' v H', Step W0 H0 W' H' → RelM W' M' H' → VR W' d v → K.rt d M' → D.rt v H')
    {hds : List ExceptHandler} {ls : List ClD} {l : List Cl} (h : HdM G X hds ls l) : ∀ (cls : Value) (dd : Option Addr) (σ : L2.St) (H : Hp), xk ⟨W0, H0, hdW X.N.length K ls⟩ cls dd H → wCls X.K X.N.length (fun cls dd _ H => xk A cls dd H) D l cls dd σ H := by
  have hF0 : Fit ⟨W0, H0, noX⟩ X := ⟨hA.le.K.trans B.fit.K, hA.le.mg.trans B.fit.mg⟩
  induction h with
  | nil => exact fun cls dd σ H ⟨W, d, M, st, rm, xr, he⟩ => ⟨W, d, M, hA.trans st, rm, xr, by rw [← hex]; exact he⟩
  | @plain x C h b₀ su np pos' hds ls l hx hc hg hsu r ih =>
    intro cls dd σ H ⟨W, d, M, st, rm, xr, he⟩
    obtain ⟨c, fs, xs, q, vs, rfl, hm, hrest⟩ := id xr
    obtain ⟨hcx, he⟩ := he
    have hmW : W.mg = G.mg := st.le.mg.trans (hA.le.mg.trans (B.fit.mg.trans B.mg))
    refine ⟨decide (c = x), by rw [B.K]; exact T c x cls C hcx hx (by rw [← hmW]; exact hm) hc, fun hb hlen a ha => ?_, fun hb => ?_⟩
    · have e : c = x := of_decide_eq_true hb
      rw [if_pos e] at he
      refine ⟨⟨W0, H0, noX⟩, _, hF0, W, _, M, _, ⟨st, rm, RelE.none hlen⟩, he, rfl, fun W' env' M' σ' H' s1 rm1 re1 hp => ?_, fun W' d' M' v H' s1 rm1 rv hp => ?_⟩
      · exact k1 W' env' M' σ' H' (st.trans s1) rm1 re1 hp
      · exact k2 W' d' M' v H' (st.trans s1) rm1 rv hp
    · have e : ¬ c = x := of_decide_eq_false hb
      rw [if_neg e] at he
      exact ih cls dd σ H ⟨W, _, M, st, rm, xr, he⟩
  | @named x n i C h b₀ su np pos' hds ls l hx hc hg hi hln hsu r ih =>
    intro cls dd σ H ⟨W, d, M, st, rm, xr, he⟩
    obtain ⟨c, fs, xs, q, vs, rfl, hm, hrest⟩ := id xr
    obtain ⟨hcx, he⟩ := he
    have hmW : W.mg = G.mg := st.le.mg.trans (hA.le.mg.trans (B.fit.mg.trans B.mg))
    refine ⟨decide (c = x), by rw [B.K]; exact T c x cls C hcx hx (by rw [← hmW]; exact hm) hc, fun hb hlen a ha => ?_, fun hb => ?_⟩
    · have e : c = x := of_decide_eq_true hb
      rw [if_pos e] at he
      refine ⟨⟨W0, H0, noX⟩, _, hF0, W, _, M, _, ⟨st, rm, RelE.none (σ := σ.set i (some (.ref a))) (by simpa using hlen)⟩, he, rfl, fun W' env' M' σ' H' s1 rm1 re1 hp => ?_, fun W' d' M' v H' s1 rm1 rv hp => ?_⟩
      · exact k1 W' _ M' _ H' (st.trans s1) rm1 (re1.un i) hp
      · exact k2 W' d' M' v H' (st.trans s1) rm1 rv hp
    · have e : ¬ c = x := of_decide_eq_false hb
      rw [if_neg e] at he
      exact ih cls dd σ H ⟨W, _, M, st, rm, xr, he⟩
theorem k_try (T : ExT G) (hs : X.stack = X.env :: X.outer) (hf : X.env.frame = some X.env.locals) {body : List Stmt} {h₀ : ExceptHandler} {hds : List ExceptHandler} {ls : List ClD} {l : List Cl} {pos : Pos} {tbm : TSm}
    (hb : ∀ (A' : Anc) (X' : Cx), Ct G k N sc A' X' → PassesOwn (model X'.prog X'.w) X'.A X'.env X'.xe → MSs A' X' body tbm) (hh : HdM G X (h₀ :: hds) ls l) : MS A X (.Try body (h₀ :: hds) [] [] pos) (sTry N.length tbm ls) := by
  let tb : WX → TS := fun Wx D σ H => ∃ A', Fit A' X ∧ (∀ cls dd σ H, xk A' cls dd H → Wx cls dd σ H) ∧ lfs A' tbm D σ H
  have main := ps_tryX (body := body) (tb := tb) (Wout := fun cls dd _ H => xk A cls dd H) (pos := pos) hs hf B.nd B.tk (fun Wx pn xe hT hP => ⟨fun pins s σ H D I ⟨A', hF, hw, hl⟩ => ?_⟩) (hh.x B.mg)
  · refine ps_imp main fun D σ H ⟨W, env, M, K, s, h, hex, k1, k2⟩ => ?_
    rw [← B.N] at h
    exact ⟨⟨W, H, hdW X.N.length K ls⟩, ⟨s.K B.fit, s.mg B.fit⟩, wish_ok B T s.st hex k1 k2 hh, W, env, M, _, ⟨.refl, s.rm, s.re⟩, h, rfl, k1, k2⟩
  · have hTk : Tk A' (X.tr pn xe) := hT.imp fun cls dd σ H z => hw cls dd σ H z
    exact (hb A' (X.tr pn xe) (B.tr hF hTk) hP).run pins s σ H D I hl
end
end Mi
end
section
set_option maxHeartbeats 4000000
namespace Mi
open PySem (Str Addr Value Expr Stmt Pos PyData)
open L2 (V Hp HO SqL SqT upd upd_same upd_ne Cx TE TT TA TS TG TI It PE PT PA PS PSs PG PI VK XK WX Ends)

theorem imp_frz {A : Anc} {m : TL} : ∀ σ H Q, lf A (mFrz m) σ H Q → lfl A m σ H Q := by
  intro σ H Q ⟨W, env, M, P, s, h, k⟩
  refine ⟨W, env, M, _, s, h, fun W1 xs M1 p H1 s1 rm1 ⟨hF, hι, vs, hp, hv⟩ hn hP => ?_⟩
  obtain ⟨a, b⟩ := rm1.freeze hp hF hι
  refine k _ (.lst xs) M1 (.ref p) H1 (s1.freeze hF hn) a ?_ hP
  unfold VR
  exact ⟨p, vs, rfl, upd_same, VRs.mono b _ _ hv⟩
theorem imp_cel {A : Anc} {m : TL} : ∀ σ H Q, lf A (mCel m) σ H Q → lfl A m σ H Q := by
  intro σ H Q ⟨W, env, M, P, s, h, k⟩
  refine ⟨W, env, M, _, s, h, fun W1 xs M1 p H1 s1 rm1 ⟨hF, hι, vs, hp, hv⟩ hn hP => ?_⟩
  have le : WLe W1 { W1 with ι := W1.ι ++ [p] } := ⟨rfl, rfl, Le.refl, fun i q h => by
    show (W1.ι ++ [p])[i]? = some q
    rw [List.getElem?_append_left (List.getElem?_eq_some_iff.mp h).1]; exact h⟩
  obtain ⟨a, b⟩ := rm1.adopt (c := .lst xs) hι ⟨hF, vs, hp, VRs.mono le _ _ hv⟩
  refine k _ (.ref M1.length) _ (.ref p) H1 (s1.adopt hn) a ?_ hP
  unfold VR
  refine ⟨p, rfl, ?_⟩
  show (W1.ι ++ [p])[M1.length]? = some p
  rw [← rm1.len]
  simp
section
variable {A : Anc} {X : Cx} {mi : TL} {g : TGm} {tt : TB} {te : TM} {own : List (Str × Nat)}
theorem imp_lcl : ∀ σ H Q, lfl A (lComp (own.map (·.2)) mi g tt te) σ H Q → L2.tLc (lfi A mi) (lfg A.nox (own.map (·.2)) g) (lft A.nox tt) (lf A.nox te) (own.map (·.2)) σ H Q :=
  fun σ H Q ⟨W, env, M, P, s, h, k⟩ => imp_lc s h k
/-- the two forms of what a list just made becomes -/
def lF (c : Bool) (m : TL) : TM := if c = true then mCel m else mFrz m
theorem imp_lF {A : Anc} {m : TL} (c : Bool) : ∀ σ H Q, lf A (lF c m) σ H Q → lfl A m σ H Q := by
  intro σ H Q h
  cases c with
  | true => exact imp_cel σ H Q h
  | false => exact imp_frz σ H Q h
theorem ms_lc {i : Nat} {x : Stmt} {y : Str} {c : Bool} {m : TL} {t : TE} (h : PS X x (L2.tAsg t (L2.gName i))) (im : ∀ σ H Q, lfl A m σ H Q → t σ H Q) : MS A X x (sAsg (lF c m) (gN i)) := by
  refine ps_imp h fun D σ H ⟨W, env, M, K, s, h, hex, k1, k2⟩ => im σ H _ (imp_lF c σ H _ ⟨W, env, M, _, s, xe (P := lF c m env M _) hex h, fun W1 d M1 v H1 s1 rm1 r1 h1 => ?_⟩)
  exact k1 W1 _ M1 _ H1 s1 rm1 ((s.re.mono s1.le).set i r1) h1
end
section
variable {G : Gd} {k : Nat} {N : List Str} {sc : PySem.Scope} {A : Anc} {X : Cx} (B : Ct G k N sc A X) {mi : TL} {g : TGm} {tt : TB} {te : TM} {own : List (Str × Nat)} {i : Nat} {y : Str}
include B
/-- name = [..], by the comprehension's own store -/
theorem k_setLc {py : Pos} {elt tg iter : Expr} {ifs : List Expr} {scope : PySem.Scope} {pos spos : Pos} (c : Bool) (hy : N[i]? = some y) (hyl : locB sc y = true) (hk : sc.kind = .function) (hl : (py.line == pos.line) = true)
    (hno : (scope.names.any fun (n, k) => n == y && (k == .local || k == .cell)) = false) (hi : MI A X tg iter mi) (ok : L2.BlkOk N sc scope own)
    (hg : ∀ (s : PySem.Shared) (H : Hp) (C : Addr) (cl : List (Str × Addr)) (fp : List Addr), MG A.nox (own.map (·.2)) (X.blk s H scope (PySem.compEnvC scope cl C X.env) fp) tg g)
    (ht : ∀ (s : PySem.Shared) (H : Hp) (C : Addr) (cl : List (Str × Addr)) (fp : List Addr), MTs A.nox (X.blk s H scope (PySem.compEnvC scope cl C X.env) fp) ifs tt)
    (he : ∀ (s : PySem.Shared) (H : Hp) (C : Addr) (cl : List (Str × Addr)) (fp : List Addr), ME A.nox (X.blk s H scope (PySem.compEnvC scope cl C X.env) fp) elt te)
    (hs : ∀ x, PySem.foldedSetIterable iter X.env x = pure x := by intro _; rfl) :
    MS A X (.Assign [.Name y py] (.ListComp elt [⟨tg, iter, ifs, 0⟩] scope pos) spos) (sAsg (lF c (lComp (own.map (·.2)) mi g tt te)) (gN i)) :=
  ms_lc (y := y) (L2.ps_setLc B.calm B.nd (by rw [B.N]; exact hy) (by rw [B.sc]; exact locB_ok hyl) (L2.sw_true (by rw [B.sc]; exact hk) (by rw [B.sc]; exact locB_ok hyl) hl hno) hi (by rw [B.N, B.sc]; exact ok) hg ht he hs) imp_lcl
theorem k_comp {elt tg iter : Expr} {ifs : List Expr} {scope : PySem.Scope} {pos : Pos} (hi : MI A X tg iter mi) (ok : L2.BlkOk N sc scope own)
    (hg : ∀ (s : PySem.Shared) (H : Hp) (C : Addr) (cl : List (Str × Addr)) (fp : List Addr), MG A.nox (own.map (·.2)) (X.blk s H scope (PySem.compEnvC scope cl C X.env) fp) tg g)
    (ht : ∀ (s : PySem.Shared) (H : Hp) (C : Addr) (cl : List (Str × Addr)) (fp : List Addr), MTs A.nox (X.blk s H scope (PySem.compEnvC scope cl C X.env) fp) ifs tt)
    (he : ∀ (s : PySem.Shared) (H : Hp) (C : Addr) (cl : List (Str × Addr)) (fp : List Addr), ME A.nox (X.blk s H scope (PySem.compEnvC scope cl C X.env) fp) elt te)
    (hs : ∀ x, PySem.foldedSetIterable iter X.env x = pure x := by intro _; rfl) : ML A X (.ListComp elt [⟨tg, iter, ifs, 0⟩] scope pos) (lComp (own.map (·.2)) mi g tt te) :=
  ml_comp B.calm B.nd hi (by rw [B.N, B.sc]; exact ok) hg ht he hs
end
/-- frozen, or a cell -/
theorem me_lF {A : Anc} {X : Cx} {x : Expr} {m : TL} (c : Bool) (h : ML A X x m) : ME A X x (lF c m) := pe_imp h (imp_lF c)

def fIs (neg : Bool) : D → D → List O → Option D := fun a b _ => match a, b with
  | .bl a, .bl b => some (.bl (if neg then !decide (a = b) else decide (a = b)))
  | _, _ => none
theorem c_is {X : Cx} : Cmp X .Is (fIs false) := ⟨_, L2.op_is_bl, by
  intro W M H d d2 v v2 e Q hK hm rm h1 h2 he k
  unfold fIs at he
  split at he
  · cases he; exact ⟨_, _, vr_bl h1, vr_bl h2, k W _ H .refl rm (VR.bl _)⟩
  · cases he⟩
theorem c_isn {X : Cx} : Cmp X .IsNot (fIs true) := ⟨_, L2.op_isnot_bl, by
  intro W M H d d2 v v2 e Q hK hm rm h1 h2 he k
  unfold fIs at he
  split at he
  · cases he; exact ⟨_, _, vr_bl h1, vr_bl h2, k W _ H .refl rm (VR.bl _)⟩
  · cases he⟩

/-- the defs that a name may hold -/
def mCallV (T : List (Str × FSp)) (i : Nat) (a : TL) : TM := fun env M P E => ∃ x sp, env[i]? = some (some (.gl x)) ∧ T.lookup x = some sp ∧ a env M (fun ds M1 => sp ds M1 P E) E
def TblR (G : Gd) (k : Nat) (T : List (Str × FSp)) : Prop := ∀ x sp, T.lookup x = some sp → FnR G k x sp []
theorem TblR.nil {G : Gd} {k : Nat} : TblR G k [] := fun x sp h => by cases h
theorem TblR.cons {G : Gd} {k j : Nat} {y : Str} {sp : FSp} {T : List (Str × FSp)} (R : FnR G j y sp []) (hj : j ≤ k) (h : TblR G k T) : TblR G k ((y, sp) :: T) := fun x sp' e => by
  rw [List.lookup_cons] at e
  by_cases hx : x = y
  · subst hx
    rw [beq_self_eq_true] at e
    cases e
    obtain ⟨f, fd, ps, ds, dvs, F, r⟩ := R.ex
    exact ⟨f, fd, ps, ds, dvs, F.mono hj, r⟩
  · rw [beq_eq_false_iff_ne.mpr hx] at e
    exact h x sp' e
section
variable {G : Gd} {k j : Nat} {N : List Str} {sc : PySem.Scope} {A : Anc} {X : Cx} (B : Ct G k N sc A X) {i : Nat} {x : Str} {e : Expr} {es : List Expr} {mr : TL} {p pos : Pos} {T : List (Str × FSp)}
include B
theorem k_callV (R : TblR G j T) (hj : j ≤ k) (hi : N[i]? = some x) (hv : visB sc x = true) (ha : MA A X (e :: es) mr) (hdb : (x == ("__debug__" : Str)) = false := by decide) (hcd : (x == ("__classdict__" : Str)) = false := by decide)
    (he : PySem.starEach (e :: es) X.env = (false, PySem.eval e X.env) :: PySem.starEach es X.env := by rfl) (hpl : (PySem.backTo pos (PySem.starEach es X.env)).any (·.1) = false := by rfl) : ME A X (.Call (.Name x p) (e :: es) [] pos) (mCallV T i mr) := by
  refine ⟨fun pins s σ H Q I ⟨W, env, M, P, st, ⟨y, sp, hy, hT, h⟩, k⟩ => ?_⟩
  obtain ⟨f, fd, ps, ds, dvs, F, hm, hk, hb, hd, hdd⟩ := (R y sp hT).ex
  obtain ⟨v, hσ, rv⟩ := st.re.var i _ hy
  unfold VR at rv
  obtain ⟨q, rfl, hq⟩ := rv
  have e2 : W.mg = G.mg := (st.mg B.fit).trans B.mg
  have e1 : W.K = G.K := (st.K B.fit).trans B.K
  rw [e2, hm] at hq
  cases hq
  refine (L2.pe_callL (i := i) (f := f) (sp := lsp G.K G.mg sp) (dvs := dvs) (E := xk A) ?_ (B.room.mono hj) (by rw [B.N]; exact hi) (by rw [B.sc]; exact visB_ok hv) (by rw [B.K]; exact hk) (by rw [B.K]; exact hb) hd (xk_passes B.tk) ha hdb hcd he hpl).run pins s σ H Q I ⟨hσ, ?_⟩
  · rw [B.prog, B.w, B.K, B.mg, B.base]; exact F
  · refine (imp_call (mr := mr) (dds := []) B dvs hdd σ H Q ⟨W, env, M, P, st, ?_, k⟩)
    have : mCall sp [] mr env M P A.E = mr env M (fun ds M1 => sp (ds ++ []) M1 P A.E) A.E := rfl
    rw [this]
    have e0 : (fun (ds : List D) (M1 : List O) => sp (ds ++ []) M1 P A.E) = fun ds M1 => sp ds M1 P A.E := by
      funext ds M1
      rw [List.append_nil]
    rw [e0]
    exact h
end

def dd {α : Type} [DecidableEq α] : List α → List α
  | [] => []
  | x :: r => if x ∈ r then dd r else x :: dd r
section
variable {α : Type} [DecidableEq α]
theorem dd_mem : ∀ {l : List α} {x : α}, x ∈ dd l ↔ x ∈ l
  | [], x => Iff.rfl
  | y :: r, x => by
    unfold dd
    by_cases h : y ∈ r
    · rw [if_pos h, dd_mem]
      constructor
      · exact fun q => List.mem_cons_of_mem _ q
      · intro q
        rcases List.mem_cons.mp q with rfl | q
        · exact h
        · exact q
    · rw [if_neg h, List.mem_cons, List.mem_cons, dd_mem]
theorem dd_nodup : ∀ l : List α, (dd l).Nodup
  | [] => List.nodup_nil
  | y :: r => by
    unfold dd
    by_cases h : y ∈ r
    · rw [if_pos h]; exact dd_nodup r
    · rw [if_neg h, List.nodup_cons, dd_mem]; exact ⟨h, dd_nodup r⟩
theorem dd_id : ∀ {l : List α}, l.Nodup → dd l = l
  | [], _ => rfl
  | y :: r, h => by
    rw [List.nodup_cons] at h
    unfold dd
    rw [if_neg h.1, dd_id h.2]
theorem dd_len_le : ∀ l : List α, (dd l).length ≤ l.length
  | [] => Nat.le_refl _
  | y :: r => by
    have := dd_len_le r
    unfold dd
    split
    · rw [List.length_cons]; omega
    · rw [List.length_cons, List.length_cons]; omega
theorem dd_len_eq : ∀ {l : List α}, (dd l).length = l.length → l.Nodup
  | [], _ => List.nodup_nil
  | y :: r, h => by
    have h2 := dd_len_le r
    unfold dd at h
    split at h
    · rw [List.length_cons] at h; omega
    · rename_i hn
      rw [List.length_cons, List.length_cons] at h
      exact List.nodup_cons.mpr ⟨hn, dd_len_eq (by omega)⟩
theorem nodup_len_le : ∀ {l m : List α}, l.Nodup → (∀ x ∈ l, x ∈ m) → l.length ≤ m.length
  | [], _, _, _ => Nat.zero_le _
  | y :: r, m, h, k => by
    rw [List.nodup_cons] at h
    have hy : y ∈ m := k y (by simp)
    have := nodup_len_le (l := r) (m := m.erase y) h.2 fun x hx => by
      have hne : x ≠ y := by rintro rfl; exact h.1 hx
      exact (List.mem_erase_of_ne hne).mpr (k x (by simp [hx]))
    rw [List.length_erase_of_mem hy] at this
    have := List.length_pos_of_mem hy
    rw [List.length_cons]; omega
theorem nodup_len_eq {l m : List α} (h : l.Nodup) (h' : m.Nodup) (k : ∀ x, x ∈ l ↔ x ∈ m) : l.length = m.length :=
  Nat.le_antisymm (nodup_len_le h fun x hx => (k x).mp hx) (nodup_len_le h' fun x hx => (k x).mpr hx)
end
/-- a tuple of ints -/
def toIL : D → Option (List Int)
  | .tup xs => intL xs
  | _ => none
def toILs : List D → Option (List (List Int))
  | [] => some []
  | d :: ds => match toIL d, toILs ds with
    | some x, some xs => some (x :: xs)
    | _, _ => none
def fLenSet : D → List O → Option D := fun d M => match rd M d with
  | .tup xs => (intL xs).bind fun ns => if ns.length ≤ 4000 then some (.int (dd ns).length) else none
  | .lst xs => match intL xs with
    | some ns => if ns.length ≤ 4000 then some (.int (dd ns).length) else none
    | none => (toILs xs).bind fun ks => if ks.length < 64 then some (.int (dd ks).length) else none
  | _ => none
end Mi
namespace L2
open PySem PySem.Spec PyProof.Rows
def kLS (X : Cx) (x : V) (H : Hp) (Q : VK) : Prop := (∃ (l : Addr) (ns : List Int), x = .ref l ∧ SqT X.K H l (ns.map V.int) ∧ ns.length ≤ 4000 ∧ Q (.int (Mi.dd ns).length) H) ∨ (∃ (l : Addr) (ns : List Int), x = .ref l ∧ SqL X.K H l (ns.map V.int) ∧ ns.length ≤ 4000 ∧ Q (.int (Mi.dd ns).length) H) ∨
  ∃ (l : Addr) (ks : List (Addr × List Int)), x = .ref l ∧ SqL X.K H l (ks.map fun p => V.ref p.1) ∧ (∀ p ∈ ks, SqT X.K H p.1 (p.2.map V.int)) ∧ ks.length < 64 ∧ Q (.int (Mi.dd (ks.map (·.2))).length) H
theorem stepD {l : List Int} {v : Int} (h : l.Nodup) : (step_dedup l v).Nodup ∧ ∀ x, x ∈ step_dedup l v ↔ x ∈ l ∨ x = v := by
  unfold step_dedup
  by_cases c : l.any (· == v) = true
  · rw [if_pos c]
    obtain ⟨y, hy, e⟩ := List.any_eq_true.mp c
    have e' : y = v := by simpa using e
    subst e'
    exact ⟨h, fun x => ⟨.inl, fun q => q.elim id fun z => z ▸ hy⟩⟩
  · rw [if_neg c]
    refine ⟨List.nodup_append.mpr ⟨h, by simp, fun a ha b hb e => c ?_⟩, fun x => by simp⟩
    simp at hb; subst hb e
    exact List.any_eq_true.mpr ⟨_, ha, by simp⟩
theorem firstMet_dd (ns : List Int) : (firstMet (fun i => ns.getD i 0) ns.length).length = (Mi.dd ns).length := by
  have key : ∀ (l acc : List Int), acc.Nodup → (l.foldl step_dedup acc).Nodup ∧ ∀ x, x ∈ l.foldl step_dedup acc ↔ x ∈ acc ∨ x ∈ l := by
    intro l
    induction l with
    | nil => intro acc h; exact ⟨h, fun x => by simp⟩
    | cons a l ih =>
      intro acc h
      obtain ⟨h1, h2⟩ := stepD (v := a) h
      obtain ⟨h3, h4⟩ := ih _ h1
      refine ⟨h3, fun x => ?_⟩
      rw [List.foldl_cons, h4, h2, List.mem_cons]
      constructor
      · rintro ((q | q) | q)
        · exact .inl q
        · exact .inr (.inl q)
        · exact .inr (.inr q)
      · rintro (q | q | q)
        · exact .inl (.inl q)
        · exact .inl (.inr q)
        · exact .inr q
  have e : (List.range ns.length).map (fun i => ns.getD i 0) = ns := by
    apply List.ext_getElem?
    intro i
    rw [List.getElem?_map]
    by_cases hi : i < ns.length
    · rw [List.getElem?_range hi, List.getElem?_eq_getElem hi]
      simp [List.getD_eq_getElem?_getD, hi]
    · rw [List.getElem?_eq_none (by simpa using hi), List.getElem?_eq_none (by simpa using hi)]; rfl
  unfold firstMet
  rw [e]
  obtain ⟨h1, h2⟩ := key ns [] List.nodup_nil
  exact Mi.nodup_len_eq h1 (Mi.dd_nodup ns) fun x => by rw [h2, Mi.dd_mem]; simp
theorem pe_lenSetM {X : Cx} {a : Expr} {ta : TE} {p p2 q pos : Pos} (hg : Gl X "len") (hm : X.mg "len" = none) (hg2 : Gl X "set") (hm2 : X.mg "set" = none) (ha : PE X a ta) (hc : X.calm = true) (hu : X.A.units + 64 < cLine)
    (na : starEach [a] X.env = (false, eval a X.env) :: starEach [] X.env := by rfl) : PE X (.Call (.Name "len" p) [.Call (.Name "set" p2) [a] [] q] [] pos) (fun σ H Q => ta σ H fun x H1 => kLS X x H1 Q) := by
  refine ⟨fun pins s σ H Q I h => ?_⟩
  refine Call_ (ld_blt I hg hm boot_len ?_)
  refine PyProof.Rows.callWith_builtin1 (PyProof.Rows.args_cons ?_ rfl) rfl rfl
  refine Call_ (ld_blt I hg2 hm2 boot_set ?_)
  refine PyProof.Rows.callWith_type1 (PyProof.Rows.args_cons (thn (ha.run pins s σ H _ I h) fun v s1 ⟨x, H1, I1, r1, q1⟩ => PyProof.Rows.args_nil ?_) na) na rfl
  rcases q1 with ⟨l, ns, rfl, hq, hl, q1⟩ | ⟨l, ns, rfl, hq, hl, q1⟩ | ⟨l, ks, rfl, hq, hk, hl, q1⟩
  · cases r1
    obtain ⟨its, r, pt, hz⟩ := I1.tuple hq
    refine call_set_tupI ns (I1.ok.hd hc) (show s1.heap.IsTuple l its.toArray from pt) (by simpa using ints_of_vals r) (by unfold scanBound; omega) fun h' tk c R1 hcn kp => ?_
    refine PyProof.Rows.args_nil ?_
    obtain ⟨o, es, ep, t, ho, hex, hd, hge, hnd, hS, hsz, hf, hn, _, _⟩ := R1
    have I2 : Inv X pins σ H1 { s1 with heap := h', toks := tk } := I1.kept kp
    have ec : es.size = (Mi.dd ns).length := by
      have h1 : (es.toList.map keyOf).length = (Mi.dd ns).length := Mi.nodup_len_eq hnd (Mi.dd_nodup ns) fun k => by rw [← hS, Mi.dd_mem]; simp
      simpa using h1
    have hle := Mi.dd_len_le ns
    exact call_len_set ho hex hd hf (by rw [ec]; omega) ⟨.int (Mi.dd ns).length, H1, I2.tok _, ⟨_, by rw [ec]⟩, q1⟩
  · cases r1
    obtain ⟨its, r, pl, hz⟩ := I1.list hq
    have hlen : its.toArray.size = ns.length := by rw [List.size_toArray, ← r.length, List.length_map]
    refine call_set_list (I1.ok.hd hc) pl.isList (by simpa using ints_of_vals r) (by rw [hlen]; unfold scanBound; omega) fun h' tk hS hk => ?_
    refine PyProof.Rows.args_nil ?_
    rw [hlen, firstMet_dd] at hS
    obtain ⟨o, es, ep, t, ho, hex, hd, _, _, _, hf, hn⟩ := hS
    have I2 : Inv X pins σ H1 { s1 with heap := h', toks := tk } := I1.kept fun b o e => hk b o (Heap.lt_size e) e
    have hle := Mi.dd_len_le ns
    exact call_len_set ho hex hd hf (by rw [hn]; omega) ⟨.int (Mi.dd ns).length, H1, I2.tok _, ⟨_, by rw [hn]⟩, q1⟩
  · cases r1
    obtain ⟨its, rv, pl, hz⟩ := I1.list hq
    refine call_set_tups (P := X.prog) (w := X.w) ks (I1.ok.hd hc) pl.isList (by simpa using refs_of_vals rv) (fun p hp => I1.isT (hk p hp)) hl (by omega) fun h' tk L es ep t R g kp => ?_
    refine PyProof.Rows.args_nil ?_
    have I2 : Inv X pins σ H1 { s1 with heap := h', toks := tk } := I1.kept kp
    obtain ⟨o, ho, hex, hd⟩ := R.ob
    have ec : es.size = (Mi.dd (ks.map (·.2))).length := by
      rw [SetTR.size (s := { s1 with heap := h', toks := tk }) R, ← List.length_map (f := fun p : Addr × List Int => p.2)]
      refine Mi.nodup_len_eq R.nd (Mi.dd_nodup _) fun k => ?_
      rw [Mi.dd_mem]
      constructor
      · intro hm'
        obtain ⟨p, hp, rfl⟩ := List.mem_map.mp hm'
        exact List.mem_map.mpr ⟨p, List.mem_of_mem_take (g.sub p hp), rfl⟩
      · intro hm'
        obtain ⟨p, hp, rfl⟩ := List.mem_map.mp hm'
        exact g.all p (by rw [List.take_length]; exact hp)
    have hle := Mi.dd_len_le (ks.map (·.2))
    rw [List.length_map] at hle
    exact call_len_set ho hex hd (SetTR.fits (s := { s1 with heap := h', toks := tk }) R) (by rw [ec]; omega) ⟨.int (Mi.dd (ks.map (·.2))).length, H1, I2.tok _, ⟨_, by rw [ec]⟩, q1⟩
end L2
namespace Mi
open PySem (Str Addr Value Expr Stmt Pos PyData)
open L2 (V Hp HO SqL SqT upd upd_same upd_ne Cx TE TT TA TS TG TI It PE PT PA PS PSs PG PI VK XK WX Ends)
theorem VRs.ils {W : Wd} {M : List O} {H : Hp} (rm : RelM W M H) : ∀ {ds : List D} {vs : List V} {ks : List (List Int)}, VRs W ds vs → toILs ds = some ks → ∃ ps : List (Addr × List Int), vs = ps.map (fun p => V.ref p.1) ∧ ps.map (·.2) = ks ∧ ∀ p ∈ ps, SqT W.K H p.1 (p.2.map V.int)
  | [], vs, ks, h, e => by
    simp [toILs] at e; subst e
    rw [h.inv0]
    exact ⟨[], rfl, rfl, fun p hp => by simp at hp⟩
  | d :: ds, vs, ks, h, e => by
    obtain ⟨v, r, rfl, a, b⟩ := h.inv
    unfold toILs at e
    split at e
    · rename_i x xs hx hxs
      cases e
      obtain ⟨ps, rfl, rfl, hp⟩ := VRs.ils rm b hxs
      cases d <;> simp [toIL] at hx
      obtain ⟨q, us, rfl, hq, hu⟩ := vr_tupF a
      rw [hu.intL hx] at hq
      refine ⟨(q, x) :: ps, rfl, rfl, fun p hp' => ?_⟩
      rcases List.mem_cons.mp hp' with rfl | hp'
      · exact .of (rm.sub _ _ hq)
      · exact hp p hp'
    · cases e
section
variable {A : Anc} {X : Cx} (F : Fit A X) {a : Expr} {ma : TM} {p p2 q pos : Pos}
include F
theorem me_lenSet (hc : X.calm = true) (hu : X.A.units + 200 < PySem.cLine) (hb : Blt X "len" (.builtin "len")) (hb2 : Blt X "set" (.type "set")) (ha : ME A X a ma) (na : PySem.starEach [a] X.env = (false, PySem.eval a X.env) :: PySem.starEach [] X.env := by rfl) :
    ME A X (.Call (.Name "len" p) [.Call (.Name "set" p2) [a] [] q] [] pos) (m1 fLenSet ma) := by
  refine me1 F (r := fun x H1 Q => L2.kLS X x H1 Q) (L2.pe_lenSetM hb.1 hb.2.1 hb2.1 hb2.2.1 ha hc (by omega) na) ?_
  intro W M H d v e Q hK hm rm r1 he k
  unfold fLenSet at he
  split at he
  · rename_i xs hr
    obtain ⟨ns, hn, he⟩ := Option.bind_eq_some_iff.mp he
    split at he
    · rename_i hl
      cases he
      obtain ⟨l, vs, rfl, s, t, _⟩ := rd_tup rm r1 hr
      exact .inl ⟨l, ns, rfl, t.intL hn ▸ hK ▸ s, hl, k W _ H .refl rm (VR.int _)⟩
    · cases he
  · rename_i xs hr
    obtain ⟨l, vs, rfl, s, t⟩ := rd_lst rm r1 hr
    split at he
    · rename_i ns hn
      split at he
      · rename_i hl
        cases he
        exact .inr (.inl ⟨l, ns, rfl, t.intL hn ▸ hK ▸ s, hl, k W _ H .refl rm (VR.int _)⟩)
      · cases he
    · obtain ⟨ks, hks, he⟩ := Option.bind_eq_some_iff.mp he
      split at he
      · rename_i hl
        cases he
        obtain ⟨ps, rfl, e2, hp⟩ := t.ils rm hks
        subst e2
        exact .inr (.inr ⟨l, ps, rfl, hK ▸ s, fun p hp' => hK ▸ hp p hp', by simpa using hl, k W _ H .refl rm (VR.int _)⟩)
      · cases he
  · cases he
end
end Mi
end
section
set_option maxHeartbeats 4000000
namespace Mi
open PySem (Str Addr Value Expr Stmt Pos PyData)
open L2 (V Hp HO SqL SqT upd upd_same upd_ne Cx TE TT TA TS TG TI It PE PT PA PS PSs PG PI VK XK WX Ends)

section
variable {n : Nat} {W W2 : Wd} (hK : W2.K = W.K) (hm : W2.mg = W.mg) (hF : Le W.F W2.F) (hι : ∀ i p, i < n → W.ι[i]? = some p → W2.ι[i]? = some p)
include hK hm hF hι
mutual
theorem VR.rbG : ∀ (d : D) (v : V), RB n d = true → VR W d v → VR W2 d v
  | .non, _, _, r => by unfold VR at r ⊢; exact r
  | .bl _, _, _, r => by unfold VR at r ⊢; exact r
  | .int _, _, _, r => by unfold VR at r ⊢; exact r
  | .str _, _, _, r => by unfold VR at r ⊢; exact r
  | .tup xs, v, b, r => by
    unfold VR at r ⊢
    obtain ⟨p, vs, e, s, t⟩ := r
    exact ⟨p, vs, e, hF _ _ s, VRs.rbG xs vs (by simpa [RB] using b) t⟩
  | .lst xs, v, b, r => by
    unfold VR at r ⊢
    obtain ⟨p, vs, e, s, t⟩ := r
    exact ⟨p, vs, e, hF _ _ s, VRs.rbG xs vs (by simpa [RB] using b) t⟩
  | .slst xs, v, b, r => by
    unfold VR at r ⊢
    obtain ⟨p, vs, e, s, t⟩ := r
    exact ⟨p, vs, e, by rw [hK]; exact hF.sqL s, VRs.rbG xs vs (by simpa [RB] using b) t⟩
  | .ins c fs xs, v, b, r => by
    unfold VR at r ⊢
    obtain ⟨p, C, dx, vs, e, m, f, l, t⟩ := r
    exact ⟨p, C, dx, vs, e, by rw [hm]; exact m, hF _ _ f, l, VRs.rbG xs vs (by simpa [RB] using b) t⟩
  | .dic ks xs, v, b, r => by
    unfold VR at r ⊢
    obtain ⟨p, o, vs, e, f, dd, t⟩ := r
    exact ⟨p, o, vs, e, hF _ _ f, dd, VRs.rbG xs vs (by simpa [RB] using b) t⟩
  | .ref a, v, b, r => by
    unfold VR at r ⊢
    obtain ⟨p, e, f⟩ := r
    exact ⟨p, e, hι a p (by simpa [RB] using b) f⟩
  | .gl x, v, _, r => by
    unfold VR at r ⊢
    obtain ⟨p, e, f⟩ := r
    exact ⟨p, e, by rw [hm]; exact f⟩
theorem VRs.rbG : ∀ (ds : List D) (vs : List V), RBs n ds = true → VRs W ds vs → VRs W2 ds vs
  | [], _, _, r => by unfold VRs at r ⊢; exact r
  | d :: ds, vs, b, r => by
    unfold VRs at r ⊢
    obtain ⟨v, rr, e, x, y⟩ := r
    have b' : RB n d = true ∧ RBs n ds = true := by simpa [RBs] using b
    exact ⟨v, rr, e, VR.rbG d v b'.1 x, VRs.rbG ds rr b'.2 y⟩
end
end
def CLC (n : Nat) (d : D) (M : List O) (P : QE) : Prop := ∃ a xs, d = .ref a ∧ n ≤ a ∧ M[a]? = some (.lst xs) ∧ RBs n xs = true ∧ (M.take n).all (RBO n) = true ∧ P (.ref n) (M.take n ++ [.lst xs])
def KclC (n : Nat) (P : QE) (E : XQ) : Kt := ⟨fun _ _ => False, fun d M => CLC n d M P, fun d M => CL n d M E⟩
theorem closeC {W0 W : Wd} {M0 M : List O} {H0 H : Hp} {a : Nat} {xs : List D} {v : V} (r0 : RelM W0 M0 H0) (st : Step W0 H0 W H) (rm : RelM W M H) (hM : (M.take M0.length).all (RBO M0.length) = true)
    (ha : M0.length ≤ a) (hx : M[a]? = some (.lst xs)) (hb : RBs M0.length xs = true) (rv : VR W (.ref a) v) :
    ∃ W2, Step W0 H0 W2 H ∧ RelM W2 (M.take M0.length ++ [.lst xs]) H ∧ VR W2 (.ref M0.length) v := by
  obtain ⟨p, vs, rfl, hp, hFp, hH, hv⟩ := cell_lst rm rv hx
  obtain ⟨c1, c2, c3⟩ := close r0 st rm hM
  have hlen : (M.take M0.length).length = M0.length := by
    have := c3.len
    rw [c2, r0.len] at this
    exact this.symm
  have pn : p ∉ W0.ι := fun hm => by
    obtain ⟨i, hi⟩ := List.mem_iff_getElem?.mp hm
    have hil : i < M0.length := by rw [← r0.len]; exact (List.getElem?_eq_some_iff.mp hi).1
    obtain ⟨h1, e1⟩ := List.getElem?_eq_some_iff.mp (st.le.ι i p hi)
    obtain ⟨h2, e2⟩ := List.getElem?_eq_some_iff.mp hp
    have := (List.getElem_inj rm.nd).mp (e1.trans e2.symm)
    omega
  have pmem : p ∈ W.ι := List.mem_of_getElem? hp
  let W2 : Wd := { wCl M0.length W H with F := fun x => if x = p then none else (wCl M0.length W H).F x, ι := W0.ι ++ [p] }
  have F0 : W0.F p = none := by
    cases e : W0.F p with
    | none => rfl
    | some o => have := st.le.F p o e; rw [hFp] at this; cases this
  have hF : Le W.F W2.F := fun x o e => by
    have ne : x ≠ p := by rintro rfl; rw [hFp] at e; cases e
    show (if x = p then none else (wCl M0.length W H).F x) = some o
    rw [if_neg ne]
    exact wCl_F rm x o e
  have hι : ∀ i q, i < M0.length → W.ι[i]? = some q → W2.ι[i]? = some q := fun i q hi e => by
    show (W0.ι ++ [p])[i]? = some q
    rw [List.getElem?_append_left (by rw [r0.len]; exact hi), ← c2]
    show (W.ι.take M0.length)[i]? = some q
    rw [List.getElem?_take_of_lt hi]; exact e
  have hp2 : ∀ x, x ≠ p → W2.F x = (wCl M0.length W H).F x := fun x h => if_neg h
  refine ⟨W2, ⟨⟨c1.le.K, c1.le.mg, fun x o e => ?_, fun i q e => ?_⟩, st.keep, fun x hx => ?_, fun x hx hn => ?_⟩, ⟨fun x o e => ?_, ?_, ?_, fun i o q hi hq => ?_⟩, ?_⟩
  · have ne : x ≠ p := by rintro rfl; rw [F0] at e; cases e
    rw [hp2 x ne]; exact c1.le.F x o e
  · show (W0.ι ++ [p])[i]? = some q
    rw [List.getElem?_append_left (List.getElem?_eq_some_iff.mp e).1]; exact e
  · by_cases ne : x = p
    · subst ne; exact .inl (st.newC x pmem pn)
    · rw [hp2 x ne] at hx; exact c1.newF x hx
  · rcases List.mem_append.mp hx with hx | hx
    · exact absurd hx hn
    · simp at hx; subst hx; exact st.newC x pmem pn
  · have e' : (if x = p then none else (wCl M0.length W H).F x) = some o := e
    split at e'
    · cases e'
    · exact c3.sub x o e'
  · show (W0.ι ++ [p]).length = _
    simp [r0.len, hlen]
  · show (W0.ι ++ [p]).Nodup
    rw [List.nodup_append]
    refine ⟨r0.nd, by simp, fun x hx y hy => ?_⟩
    simp at hy; subst hy
    rintro rfl; exact pn hx
  · by_cases hl : i < M0.length
    · rw [List.getElem?_append_left (by rw [hlen]; exact hl), List.getElem?_take_of_lt hl] at hi
      have hq' : (W0.ι ++ [p])[i]? = some q := hq
      rw [List.getElem?_append_left (by rw [r0.len]; exact hl), ← c2] at hq'
      have hq2 : (W.ι.take M0.length)[i]? = some q := hq'
      rw [List.getElem?_take_of_lt hl] at hq2
      have oc := rm.cell i o q hi hq2
      have hbo : RBO M0.length o = true := List.all_eq_true.mp hM o (List.mem_of_getElem? (i := i) (by rw [List.getElem?_take_of_lt hl]; exact hi))
      have qne : q ≠ p := by
        rintro rfl
        obtain ⟨h1, e1⟩ := List.getElem?_eq_some_iff.mp hq2
        obtain ⟨h2, e2⟩ := List.getElem?_eq_some_iff.mp hp
        have := (List.getElem_inj rm.nd).mp (e1.trans e2.symm)
        omega
      have qF : o ≠ .dead → W2.F q = none := fun hd => by
        rw [hp2 q qne]
        show (if q ∈ W.ι.drop M0.length then H q else W.F q) = none
        rw [if_neg]
        · exact oc.free hd
        · intro hm
          have nd := rm.nd
          rw [← List.take_append_drop M0.length W.ι, List.nodup_append] at nd
          exact nd.2.2 q (List.mem_of_getElem? (i := i) (by rw [List.getElem?_take_of_lt hl]; exact hq2)) q hm rfl
      cases o with
      | lst ys => obtain ⟨f, us, h1, h2⟩ := oc; exact ⟨qF (by simp), us, h1, VRs.rbG (n := M0.length) (W := W) (W2 := W2) rfl rfl hF hι ys us hbo h2⟩
      | ins c fs ys => obtain ⟨f, C, dx, us, h0, h1, h3, h2⟩ := oc; exact ⟨qF (by simp), C, dx, us, h0, h1, h3, VRs.rbG (n := M0.length) (W := W) (W2 := W2) rfl rfl hF hι ys us hbo h2⟩
      | dic ks ys => obtain ⟨f, ob, us, h1, h3, h2⟩ := oc; exact ⟨qF (by simp), ob, us, h1, h3, VRs.rbG (n := M0.length) (W := W) (W2 := W2) rfl rfl hF hι ys us hbo h2⟩
      | dead => exact oc
    · have hi2 := (List.getElem?_eq_some_iff.mp hi).1
      have e : i = M0.length := by simp [hlen] at hi2; omega
      subst e
      rw [List.getElem?_append_right (by rw [hlen]; exact Nat.le_refl _), hlen] at hi
      simp at hi; subst hi
      have hq' : (W0.ι ++ [p])[M0.length]? = some q := hq
      rw [← r0.len] at hq'
      simp at hq'; subst hq'
      exact ⟨if_pos rfl, vs, hH, VRs.rbG (n := M0.length) (W := W) (W2 := W2) rfl rfl hF hι xs vs hb hv⟩
  · unfold VR
    refine ⟨p, rfl, ?_⟩
    show (W0.ι ++ [p])[M0.length]? = some p
    rw [← r0.len]; simp
def fSpC (b : TSm) (n np : Nat) : FSp := fun ds M P E => ds.length = np ∧ b (startE n ds) M (KclC M.length P E)
theorem fn_okC {P : PySem.Program} {w : PySem.World} {K : PySem.W.Frag} {mg : Str → Option Value} {base : PySem.Heap} {x qual : Str} {params : PySem.Arguments} {body : List Stmt} {scope : PySem.Scope} {dvs : List V} {kws : List (Str × V)} {f : Addr} {fd : PySem.FuncData}
    {N ps : List Str} {k : Nat} (F : L2.FunD K x qual params body scope dvs kws f fd) (S : L2.FnScope N ps scope) (b : TSm)
    (hbody : ∀ A X, Bd k N scope P w K mg base A X → MSs A X body b) : L2.FnOk P w K mg base (L2.CX P w) (k + 1) f fd ps (lsp K mg (fSpC b N.length ps.length)) := by
  refine F.ok S (fun vs H Q E ⟨W, ds, M, P, PE, _, _, _, r, h, _⟩ => by rw [r.length]; exact h.1) fun cdv A outer s H vs Q E hr ⟨W, ds, M, P', PE, hK, hmg, rm, r, h, k1, k2⟩ => ?_
  let A' : Anc := ⟨W, H, fun d M' => CL M.length d M' PE⟩
  refine ⟨lfs A' b, hbody A' _ ⟨⟨hK, hmg⟩, ?_, rfl, rfl, rfl, hr, L2.passes_of rfl, rfl, rfl, rfl, rfl, rfl, rfl, rfl, fun _ => rfl⟩, ?_⟩
  · refine (L2.takes_of (E := E) rfl rfl rfl rfl).imp fun cls dd _ H' ⟨W', d, M', st, rm', x, d', hd, hM, hp⟩ => ?_
    obtain ⟨a1, a2, a3⟩ := close rm st rm' hM
    exact k2 _ d' _ cls dd H' a1 a3 (x.cl rm' hd) hp
  · refine ⟨W, startE N.length ds, M, KclC M.length P' PE, ⟨.refl, rm, r.begin_ N⟩, h.2, rfl, fun W' env' M' σ' H' st rm' re hp => hp.elim, fun W' d M' v H' st rm' rv ⟨a, xs, e, ha, hx, hb, hM, hp⟩ => ?_⟩
    subst e
    obtain ⟨W2, a1, a2, a3⟩ := closeC rm st rm' hM ha hx hb rv
    exact k1 _ _ _ v H' a1 a2 a3 hp
end Mi
end
section
set_option maxHeartbeats 4000000
namespace Mi
open PySem PySem.Spec PyProof.Rows
open L2 (V Hp HO SqL SqT CXT FnOk Room Binds FunD)
open He (ga ma fAd eqO eqO_ok ba Fa DefD)
def tyL : List Ty := [.non, .bl, .int, .str, .tup, .lst, .dic]
theorem tyL_all (T : Ty) : T ∈ tyL := by cases T <;> simp [tyL]
def okC (K : W.Frag) (x : Str) : Bool := (Fa.cls x).ok K && (eqO (W.findIn K (.ref (ga K x)) "__class__") (some (some (.builtin "object.__class__"))) && (eqO (W.specialIn K (.builtin "object.__class__") "__get__") (some (some (.builtin "getset_descriptor.__get__"))) &&
  (decide (W.takesIn K (.builtin "object.__class__") = some true) && (decide (W.mroIn K (ga K x) (.type "object") = some true) && (tyL.all fun T => decide (W.kitOne K (.ref (ga K x)) (.type T.s) = some false) && decide (W.kitOne K (.type T.s) (.ref (ga K x)) = some false))))))
theorem okC_ok {K : W.Frag} {x : Str} (h : okC K x = true) : IsC K (ga K x) := by
  obtain ⟨h1, h⟩ := ba h
  obtain ⟨h2, h⟩ := ba h
  obtain ⟨h3, h⟩ := ba h
  obtain ⟨h4, h⟩ := ba h
  obtain ⟨h5, h6⟩ := ba h
  have h7 := List.all_eq_true.mp h6
  exact ⟨He.cls_ok h1, eqO_ok h2, eqO_ok h3, of_decide_eq_true h4, of_decide_eq_true h5, fun T => of_decide_eq_true (ba (h7 T (tyL_all T))).1, fun T => of_decide_eq_true (ba (h7 T (tyL_all T))).2⟩
/-- a class of the program: not there, or told of -/
def clsTB (K : W.Frag) : Bool := CT.all fun p => (Fa.free p.1).ok K || ((Fa.glo p.1).ok K && (okC K p.1 && ((p.2.all fun f => (Fa.noat p.1 f).ok K) && CT.all fun q => (Fa.free q.1).ok K || decide (W.kitOne K (.ref (ga K p.1)) (.ref (ga K q.1)) = some (p.1 == q.1)))))
theorem ct_mem {c : Str} {l : List Str} : ∀ {t : List (Str × List Str)}, t.lookup c = some l → (c, l) ∈ t
  | [], h => by cases h
  | (b, u) :: r, h => by
    rw [List.lookup_cons] at h
    split at h
    · rename_i q
      cases h
      have : c = b := by simpa using q
      subst this
      exact List.mem_cons_self
    · exact List.mem_cons_of_mem _ (ct_mem h)
section
variable {K : W.Frag} {h : Heap} {mg : Str → Option Value} (X : K.In h) (N : h.Ns mainGlobals mg)
include X N
theorem clsT_at (c : clsTB K = true) {x : Str} {fs : List Str} {C : Addr} (hx : CT.lookup x = some fs) (hm : mg x = some (.ref C)) :
    C = ga K x ∧ okC K x = true ∧ (∀ f ∈ fs, (Fa.noat x f).ok K = true) ∧ ∀ y gs D, CT.lookup y = some gs → mg y = some (.ref D) → W.kitOne K (.ref C) (.ref D) = some (x == y) := by
  have all := List.all_eq_true.mp c
  have k1 := all _ (ct_mem hx)
  have nofree : ∀ {z : Str} {D : Addr}, mg z = some (.ref D) → (Fa.free z).ok K = false := fun {z D} e => by
    cases q : (Fa.free z).ok K with
    | false => rfl
    | true => rw [He.free_ok X N q] at e; cases e
  rw [nofree hm, Bool.false_or] at k1
  obtain ⟨g1, k1⟩ := ba k1
  obtain ⟨k1, k2⟩ := ba k1
  obtain ⟨k2, k3⟩ := ba k2
  have eC : C = ga K x := by
    have := hm.symm.trans (He.glo_ok X N g1)
    cases this; rfl
  refine ⟨eC, k1, fun f hf => List.all_eq_true.mp k2 f hf, fun y gs D hy hD => ?_⟩
  have k4 := List.all_eq_true.mp k3 _ (ct_mem hy)
  rw [nofree hD, Bool.false_or] at k4
  have k5 := all _ (ct_mem hy)
  rw [nofree hD, Bool.false_or] at k5
  have eD : D = ga K y := by
    have := hD.symm.trans (He.glo_ok X N (ba k5).1)
    cases this; rfl
  rw [eC, eD]
  exact of_decide_eq_true k4
theorem clsT_of (c : clsTB K = true) {P : Program} {w : World} {base : Heap} : ClsT ⟨P, w, K, mg, base⟩ ∧ IsT ⟨P, w, K, mg, base⟩ := by
  have lk : ∀ {x : Str}, clB x = true → ∃ fs, CT.lookup x = some fs := fun {x} h => Option.isSome_iff_exists.mp h
  refine ⟨fun x f C hf hm => ?_, ⟨fun x C hx hm => ?_, fun x C y D hx hm hy hD => ?_⟩⟩
  · unfold ctB at hf
    split at hf
    · rename_i fs hl
      obtain ⟨e, h1, h2, _⟩ := clsT_at X N c hl hm
      subst e
      exact ⟨(okC_ok h1).cl, He.noat_ok (h2 f (by simpa using hf))⟩
    · cases hf
  · obtain ⟨fs, hl⟩ := lk hx
    obtain ⟨e, h1, _, _⟩ := clsT_at X N c hl hm
    rw [e]; exact okC_ok h1
  · obtain ⟨fs, hl⟩ := lk hx
    obtain ⟨gs, hl'⟩ := lk hy
    exact (clsT_at X N c hl hm).2.2.2 y gs D hl' hD
end
def exL : List Str := ["Malformed", "Refused", "NoText"]
def exTB (K : W.Frag) : Bool := exL.all fun x => (Fa.free x).ok K || ((Fa.glo x).ok K && exL.all fun y => (Fa.free y).ok K || (Fa.exm x y (decide (x = y))).ok K)
theorem exT_of {K : W.Frag} {h : Heap} {mg : Str → Option Value} (X : K.In h) (N : h.Ns mainGlobals mg) (c : exTB K = true) {P : Program} {w : World} {base : Heap} : ExT ⟨P, w, K, mg, base⟩ := by
  intro x y v C hx hy hv hC
  have all := List.all_eq_true.mp c
  have mx : x ∈ exL := by simpa [exB, exL] using hx
  have my : y ∈ exL := by simpa [exB, exL] using hy
  have nofree : ∀ {z : Str} {D : Value}, mg z = some D → (Fa.free z).ok K = false := fun {z D} e => by
    cases q : (Fa.free z).ok K with
    | false => rfl
    | true => rw [He.free_ok X N q] at e; cases e
  have k1 := all _ mx
  rw [nofree hv, Bool.false_or] at k1
  obtain ⟨g1, k2⟩ := ba k1
  have k3 := List.all_eq_true.mp k2 _ my
  rw [nofree hC, Bool.false_or] at k3
  have k5 := all _ my
  rw [nofree hC, Bool.false_or] at k5
  have e1 := hv.symm.trans (He.glo_ok X N g1)
  have e2 := hC.symm.trans (He.glo_ok X N (ba k5).1)
  cases e1; cases e2
  exact He.exm_ok k3
def oxcB (K : W.Frag) (C : Addr) : Bool := match K.lookup C with
  | some ⟨.type "type", _, .cls cd, sl⟩ => (match cd.mro, sl.toList with
    | .ref C' :: bm, [_, _, _, _, some (.builtin n), _] => C' == C && (n == "Exception.__new__" && (cd.hasDict && (!cd.hasDel && refsX bm)))
    | _, _ => false)
  | _ => false
def okE (K : W.Frag) (x f : Str) : Bool := oxcB K (ga K x) && (eqO (W.findIn K (.ref (ga K x)) "__setattr__") (some (some (.builtin "object.__setattr__"))) && (decide (W.subIn K (.ref (ga K x)) (.type "BaseException") = some true) && (decide (W.typeIn K (.ref (ga K x)) = some (.type "type")) && (W.keepIn K (.ref (ga K x)) &&
  (eqO (W.findIn K (.ref (ga K x)) f) (some none) && (eqO (W.findIn K (.ref (ga K x)) "__init__") (some (some (.ref (ma K (ga K x) "__init__")))) && decide (W.typeIn K (.ref (ma K (ga K x) "__init__")) = some (.type "function"))))))))
theorem oxc_ok {K : W.Frag} {C : Addr} (q : oxcB K C = true) : ∃ nm q N bs bm sn sub ab col dd k0 k1 k2 k3 k5, K.lookup C = some (excClassObj nm q C N bs bm true sn sub ab col dd k0 k1 k2 k3 k5 "Exception.__new__") ∧ refsX bm = true := by
  unfold oxcB at q
  split at q
  · rename_i dd cd sl ho
    split at q
    · rename_i C' bm k0 k1 k2 k3 n k5 hm hs
      simp only [Bool.and_eq_true, beq_iff_eq, Bool.not_eq_true'] at q
      obtain ⟨rfl, rfl, hdc, hdel, ht⟩ := q
      obtain ⟨nm, bs, mro, ns, qn, hd, sn, sub, ab, col, del⟩ := cd
      dsimp only at hm hdel hdc
      subst hm hdel hdc
      have hsl : sl = #[k0, k1, k2, k3, some (.builtin "Exception.__new__"), k5] := by
        obtain ⟨l⟩ := sl
        simp only at hs
        rw [hs]
      subst hsl
      exact ⟨nm, qn, ns, bs, bm, sn, sub, ab, col, dd, k0, k1, k2, k3, k5, ho, ht⟩
    · cases q
  · cases q
def okB (K : W.Frag) (b : Str) : Bool := W.readsIn K (ga K b) (.type "type") && (eqO (W.specialIn K (.ref (ga K b)) "__getattribute__") (some (some (.builtin "type.__getattribute__"))) && match W.findCls K (.ref (ga K b)) (.type "type") "__init__" with
  | some (.val (.builtin n)) => n == "Exception.__init__"
  | _ => false)
theorem okB_ok {K : W.Frag} {b : Str} (h : okB K b = true) : OxB K (ga K b) := by
  obtain ⟨h1, h⟩ := ba h
  obtain ⟨h2, h3⟩ := ba h
  refine ⟨h1, eqO_ok h2, ?_⟩
  split at h3
  · rename_i n e
    rw [e]
    rw [beq_iff_eq] at h3
    rw [h3]
  · cases h3
/-- an own exception, its __init__ known -/
theorem exR_of {K : W.Frag} {h : Heap} {mg : Str → Option Value} (X : K.In h) (N : h.Ns mainGlobals mg) {P : Program} {w : World} {base : Heap} {x f : Str} (g : (Fa.glo x).ok K = true) (c : okE K x f = true) {k : Nat} {fd : FuncData} {ps : List Str}
    (F : FnOk P w K mg base (L2.CX P w) k (ma K (ga K x) "__init__") fd ps (spX K f)) (hb : Binds K fd ps []) : ExR ⟨P, w, K, mg, base⟩ k x f := by
  obtain ⟨c1, c⟩ := ba c
  obtain ⟨c2, c⟩ := ba c
  obtain ⟨c3, c⟩ := ba c
  obtain ⟨c4, c⟩ := ba c
  obtain ⟨c5, c⟩ := ba c
  obtain ⟨c6, c⟩ := ba c
  obtain ⟨c7, c8⟩ := ba c
  exact ⟨_, _, fd, ps, F, He.glo_ok X N g, ⟨oxc_ok c1, eqO_ok c2, of_decide_eq_true c3, of_decide_eq_true c4, c5⟩, eqO_ok c6, eqO_ok c7, of_decide_eq_true c8, hb⟩
abbrev AlH : Type := He.AlD × Bool
def hookH (n : Nat) (fa : List Fa) (fn : List DefD) (ex : W.Frag → Bool) : W.Hook where
  α := AlH
  obs := fun s => (fun K => (He.obsD fa fn K, ex K)) (He.frG s.heap.get? (He.asD s.heap.get? n ++ [cStatics]))
  val := fun _ => (He.valD fn, true)
  says := fun _ h => ∃ K : W.Frag, K.In h ∧ He.SaysD fa fn K ∧ ex K = true
  of := fun _ _ e => ⟨_, He.frG_in, congrArg Prod.fst e, congrArg Prod.snd e⟩
  keeps := fun _ _ _ ⟨K, hK, c⟩ k => ⟨K, W.Frag.In.keeps hK k, c⟩
def obH (n : Nat) (fa : List Fa) (fn : List DefD) (ex : W.Frag → Bool) (g : Addr → Option Obj) : AlH := (fun K => (He.obsD fa fn K, ex K)) (He.frG g (He.asD g n ++ [cStatics]))
theorem obH_eq {n : Nat} {fa : List Fa} {fn : List DefD} {ex : W.Frag → Bool} (s : W.SharedT) : obH n fa fn ex (HandSHeadRun.getT s) = (hookH n fa fn ex).obs s.abs := by
  have e : HandSHeadRun.getT s = s.abs.heap.get? := funext (HandSHeadRun.getT_eq s)
  rw [e] <;> rfl
theorem walk_H {l : W.OpenLaw} {n k : Nat} {q : Program} {loose : List Str} {XP : (Str → Option Value) → Heap → Prop} {YP : World → Heap → Prop} {d : DefRec} {x : Str}
    (hn : l.most = some n) (hn2 : n ≤ sizeLine) (hdf : d.params.defaults = []) (hr : Room k callerA)
    (F : ∀ (w : World) (mg : Str → Option Value) (fa : Addr) (h : Heap), YP w h → h.Ns mainGlobals mg → mg d.name = some (.ref fa) →
      ∃ (K : W.Frag) (fd : FuncData) (sp : FSp), K.In h ∧ (∀ (s : Shared) (u : Value), BindsTo s fd ⟨[u], []⟩ [(x, u)]) ∧
        (∀ ns : List Int, ns.length ≤ n → (∀ z ∈ ns, Builtin.Int.intBits z ≤ 1048576) → sp [.slst (ns.map D.int)] [] (fun d _ => d = .bl true) noX) ∧
        ∀ base : Heap, K.In base → base.Ns mainGlobals mg → FnOk l.prog w K mg base (L2.CX l.prog w) k fa fd [x] (lsp K mg sp)) :
    W.WalkO q loose XP YP l.row.toRowW d [] (fun f vs => PySem.call f vs) := by
  refine Att.attach_callB hn hdf fun w s₀ s₁ mg mb fa o pm cd doc a vs ns G Y ho hd hcd hmg hobj hints hlen hbits hg => ?_
  obtain ⟨K, fd, sp, KX, hb, hsp, hF⟩ := F w mg fa _ Y G.T.g hmg
  refine L2.law_call KX G.T.g G.T.b G.T.builtins G.T.nolimit hg hobj hints (Nat.le_trans hlen hn2) hr hF hb (fun H hO hS => ?_) fun H e s' ⟨_, _, _, _, _, _, _, _, _, _, _, _, z⟩ => z
  refine ⟨⟨K, mg, H, []⟩, _, [], _, _, rfl, rfl, ⟨fun a u h => h, rfl, List.nodup_nil, fun i d p hi _ => by cases hi⟩, .cons ?_ .nil, hsp ns hlen hbits, fun W' d M' v H' st rm rv hp => ?_, fun W' d M' cls dd H' st rm xr hp => hp⟩
  · unfold VR
    refine ⟨a, _, rfl, hS, ?_⟩
    clear hobj hints hlen hbits hS hsp
    induction ns with
    | nil => exact .nil
    | cons z zs ih => exact .cons (VR.int z) ih
  · subst hp; exact vr_bl rv
end Mi
end
section
set_option maxHeartbeats 4000000
namespace Mi
open PySem (Str Addr Value Expr Stmt Pos PyData)
open L2 (V Hp HO SqL SqT upd upd_same upd_ne Cx TE TT TA TS TG TI It PE PT PA PS PSs PG PI VK XK WX Ends)
/-- the built-in names of the program -/
def bl : List Str := ["len", "range", "tuple", "list", "all", "any", "sum", "isinstance", "int", "bool", "str", "abs", "max", "min", "sorted", "enumerate", "zip", "set", "dict", "divmod", "print"]
def Bs (G : Gd) : Prop := ∀ x ∈ bl, G.mg x = none
theorem Bs.f {G : Gd} (h : Bs G) (x : Str) (hx : bl.contains x = true := by decide +kernel) : G.mg x = none := h x (by simpa using hx)
theorem FnR.mono {G : Gd} {j k : Nat} {x : Str} {sp : FSp} {dds : List D} (R : FnR G j x sp dds) (h : j ≤ k) : FnR G k x sp dds := by
  obtain ⟨f, fd, ps, ds, dvs, F, r⟩ := R.ex
  exact ⟨f, fd, ps, ds, dvs, F.mono h, r⟩
theorem MeR.mono {G : Gd} {j k : Nat} {c x : Str} {sp : FSp} {dds : List D} (R : MeR G j c x sp dds) (h : j ≤ k) : MeR G k c x sp dds := by
  obtain ⟨C, f, fd, ps, ds, dvs, F, r⟩ := R.ex
  exact ⟨C, f, fd, ps, ds, dvs, F.mono h, r⟩
def sPar3 (i j l : Nat) (a : TL) : TSm := fun env M K => a env M (fun ds M1 => ∃ d e f, ds = [d, e, f] ∧ K.nx (((env.set i (some d)).set j (some e)).set l (some f)) M1) K.ex
theorem ms_par3 {A : Anc} {X : Cx} {x : Stmt} {i j l : Nat} {al : TL} (h : PS X x (L2.tPar3 i j l (lfa A al))) : MS A X x (sPar3 i j l al) := by
  refine ps_imp h fun D σ H ⟨W, env, M, K, s, h, hex, k1, k2⟩ => ⟨W, env, M, _, s, xe (P := al env M _) hex h, fun W1 ds M1 vs H1 s1 rm1 r1 ⟨d, e, f, e1, h1⟩ => ?_⟩
  subst e1
  obtain ⟨v, r, rfl, ra, rb⟩ := r1.inv
  obtain ⟨w, r, rfl, rc, rd⟩ := rb.inv
  obtain ⟨u, r, rfl, re, rf⟩ := rd.inv
  have := rf.inv0
  subst this
  exact ⟨v, w, u, rfl, k1 W1 _ M1 _ H1 s1 rm1 ((((s.re.mono s1.le).set i ra).set j rc).set l re) h1⟩
section
variable {G : Gd} {k : Nat} {N : List Str} {sc : PySem.Scope} {A : Anc} {X : Cx} (B : Ct G k N sc A X)
include B
theorem k_par {i j : Nat} {x y : Str} {a b : Expr} {al : TL} {px py pt pos : Pos} {kt k2 pt2} (hi : N[i]? = some x) (hj : N[j]? = some y) (hij : i ≠ j) (hx : locB sc x = true) (hy : locB sc y = true) (ha : MA A X [a, b] al)
    (hw : ∀ E : PySem.Env, E.scope = sc → PySem.swappedStores [.Tuple [.Name x px, .Name y py] kt pt] (.Tuple [a, b] k2 pt2) E = pure (some [x, y]))
    (hs : PySem.swapsWithSole [.Tuple [.Name x px, .Name y py] kt pt] (.Tuple [a, b] k2 pt2) pos.line X.env = pure false := by rfl) :
    MS A X (.Assign [.Tuple [.Name x px, .Name y py] kt pt] (.Tuple [a, b] k2 pt2) pos) (sPar i j al) :=
  ms_par (L2.ps_par B.calm B.nd (by rw [B.N]; exact hi) (by rw [B.N]; exact hj) hij (by rw [B.sc]; exact locB_ok hx) (by rw [B.sc]; exact locB_ok hy) ha (hw _ B.sc) hs)
theorem k_par3 {i j l : Nat} {x y z : Str} {a b c : Expr} {al : TL} {px py pz pt pos : Pos} {kt k2 pt2} (hi : N[i]? = some x) (hj : N[j]? = some y) (hl : N[l]? = some z) (hij : i ≠ j) (hil : i ≠ l) (hjl : j ≠ l) (hx : locB sc x = true) (hy : locB sc y = true) (hz : locB sc z = true)
    (ha : MA A X [a, b, c] al)
    (hw : ∀ E : PySem.Env, E.scope = sc → PySem.swappedStores [.Tuple [.Name x px, .Name y py, .Name z pz] kt pt] (.Tuple [a, b, c] k2 pt2) E = pure (some [x, y, z]))
    (hs : PySem.swapsWithSole [.Tuple [.Name x px, .Name y py, .Name z pz] kt pt] (.Tuple [a, b, c] k2 pt2) pos.line X.env = pure false := by rfl) :
    MS A X (.Assign [.Tuple [.Name x px, .Name y py, .Name z pz] kt pt] (.Tuple [a, b, c] k2 pt2) pos) (sPar3 i j l al) :=
  ms_par3 (L2.ps_par3 B.calm B.nd (by rw [B.N]; exact hi) (by rw [B.N]; exact hj) (by rw [B.N]; exact hl) hij hil hjl (by rw [B.sc]; exact locB_ok hx) (by rw [B.sc]; exact locB_ok hy) (by rw [B.sc]; exact locB_ok hz) ha (hw _ B.sc) hs)
/-- a target of any form, the value by its own way -/
theorem k_asg {vs : List Nat} {tg e : Expr} {ma : TM} {g : TGm} {pos : Pos} (he : ME A X e ma) (hg : MG A vs X tg g) (hw : ∀ E : PySem.Env, E.scope = sc → PySem.swappedStores [tg] e E = pure none)
    (hs : PySem.swapsWithSole [tg] e pos.line X.env = pure false := by rfl) (h1 : (PySem.assignEach [tg] X.env).map (·.2) = [PySem.assign tg X.env] := by rfl) : MS A X (.Assign [tg] e pos) (sAsg ma g) :=
  ms_asg he hg hs (hw _ B.sc) h1
end
section
variable {G : Gd} {k : Nat} {N : List Str} {sc : PySem.Scope} {A : Anc} {X : Cx} (B : Ct G k N sc A X) (hb : Bs G)
theorem bb_len : PySem.bootBuiltins "len" = some (.builtin "len") := by decide +kernel
theorem bb_all : PySem.bootBuiltins "all" = some (.builtin "all") := by decide +kernel
theorem bb_any : PySem.bootBuiltins "any" = some (.builtin "any") := by decide +kernel
theorem bb_sum : PySem.bootBuiltins "sum" = some (.builtin "sum") := by decide +kernel
theorem bb_isinstance : PySem.bootBuiltins "isinstance" = some (.builtin "isinstance") := by decide +kernel
theorem bb_abs : PySem.bootBuiltins "abs" = some (.builtin "abs") := by decide +kernel
theorem bb_max : PySem.bootBuiltins "max" = some (.builtin "max") := by decide +kernel
theorem bb_min : PySem.bootBuiltins "min" = some (.builtin "min") := by decide +kernel
theorem bb_sorted : PySem.bootBuiltins "sorted" = some (.builtin "sorted") := by decide +kernel
theorem bb_divmod : PySem.bootBuiltins "divmod" = some (.builtin "divmod") := by decide +kernel
theorem bb_range : PySem.bootBuiltins "range" = some (.type "range") := by decide +kernel
theorem bb_tuple : PySem.bootBuiltins "tuple" = some (.type "tuple") := by decide +kernel
theorem bb_list : PySem.bootBuiltins "list" = some (.type "list") := by decide +kernel
theorem bb_int : PySem.bootBuiltins "int" = some (.type "int") := by decide +kernel
theorem bb_bool : PySem.bootBuiltins "bool" = some (.type "bool") := by decide +kernel
theorem bb_str : PySem.bootBuiltins "str" = some (.type "str") := by decide +kernel
theorem bb_enumerate : PySem.bootBuiltins "enumerate" = some (.type "enumerate") := by decide +kernel
theorem bb_zip : PySem.bootBuiltins "zip" = some (.type "zip") := by decide +kernel
theorem bb_set : PySem.bootBuiltins "set" = some (.type "set") := by decide +kernel
theorem bb_dict : PySem.bootBuiltins "dict" = some (.type "dict") := by decide +kernel
include B hb
theorem Ct.b_len (h : glB sc "len" = true := by decide +kernel) : Blt X "len" (.builtin "len") := B.blt h (hb.f "len") bb_len
theorem Ct.b_all (h : glB sc "all" = true := by decide +kernel) : Blt X "all" (.builtin "all") := B.blt h (hb.f "all") bb_all
theorem Ct.b_any (h : glB sc "any" = true := by decide +kernel) : Blt X "any" (.builtin "any") := B.blt h (hb.f "any") bb_any
theorem Ct.b_sum (h : glB sc "sum" = true := by decide +kernel) : Blt X "sum" (.builtin "sum") := B.blt h (hb.f "sum") bb_sum
theorem Ct.b_isinstance (h : glB sc "isinstance" = true := by decide +kernel) : Blt X "isinstance" (.builtin "isinstance") := B.blt h (hb.f "isinstance") bb_isinstance
theorem Ct.b_abs (h : glB sc "abs" = true := by decide +kernel) : Blt X "abs" (.builtin "abs") := B.blt h (hb.f "abs") bb_abs
theorem Ct.b_max (h : glB sc "max" = true := by decide +kernel) : Blt X "max" (.builtin "max") := B.blt h (hb.f "max") bb_max
theorem Ct.b_min (h : glB sc "min" = true := by decide +kernel) : Blt X "min" (.builtin "min") := B.blt h (hb.f "min") bb_min
theorem Ct.b_sorted (h : glB sc "sorted" = true := by decide +kernel) : Blt X "sorted" (.builtin "sorted") := B.blt h (hb.f "sorted") bb_sorted
theorem Ct.b_divmod (h : glB sc "divmod" = true := by decide +kernel) : Blt X "divmod" (.builtin "divmod") := B.blt h (hb.f "divmod") bb_divmod
theorem Ct.b_range (h : glB sc "range" = true := by decide +kernel) : Blt X "range" (.type "range") := B.blt h (hb.f "range") bb_range
theorem Ct.b_tuple (h : glB sc "tuple" = true := by decide +kernel) : Blt X "tuple" (.type "tuple") := B.blt h (hb.f "tuple") bb_tuple
theorem Ct.b_list (h : glB sc "list" = true := by decide +kernel) : Blt X "list" (.type "list") := B.blt h (hb.f "list") bb_list
theorem Ct.b_int (h : glB sc "int" = true := by decide +kernel) : Blt X "int" (.type "int") := B.blt h (hb.f "int") bb_int
theorem Ct.b_bool (h : glB sc "bool" = true := by decide +kernel) : Blt X "bool" (.type "bool") := B.blt h (hb.f "bool") bb_bool
theorem Ct.b_str (h : glB sc "str" = true := by decide +kernel) : Blt X "str" (.type "str") := B.blt h (hb.f "str") bb_str
theorem Ct.b_enumerate (h : glB sc "enumerate" = true := by decide +kernel) : Blt X "enumerate" (.type "enumerate") := B.blt h (hb.f "enumerate") bb_enumerate
theorem Ct.b_zip (h : glB sc "zip" = true := by decide +kernel) : Blt X "zip" (.type "zip") := B.blt h (hb.f "zip") bb_zip
theorem Ct.b_set (h : glB sc "set" = true := by decide +kernel) : Blt X "set" (.type "set") := B.blt h (hb.f "set") bb_set
theorem Ct.b_dict (h : glB sc "dict" = true := by decide +kernel) : Blt X "dict" (.type "dict") := B.blt h (hb.f "dict") bb_dict
omit hb
theorem Ct.u1 : X.A.units + 1 < PySem.cLine := by have := B.room.un; omega
theorem Ct.u64 : X.A.units + 64 < PySem.cLine := by have := B.room.un; omega
theorem Ct.u200 : X.A.units + 200 < PySem.cLine := by have := B.room.un; omega
theorem Ct.nox : Ct G k N sc A.nox X := ⟨⟨B.fit.K, B.fit.mg⟩, .nox, B.calm, B.nd, B.N, B.sc, B.room, B.prog, B.w, B.K, B.mg, B.base⟩
end
theorem FnR.gl {G : Gd} {k : Nat} {x : Str} {sp : FSp} {dds : List D} (R : FnR G k x sp dds) : ∃ a, G.mg x = some (.ref a) := by
  obtain ⟨f, fd, ps, ds, dvs, F, hm, r⟩ := R.ex
  exact ⟨f, hm⟩
theorem MkR.gl {G : Gd} {k : Nat} {x : Str} {sp : FSp} {dds : List D} (R : MkR G k x sp dds) : ∃ a, G.mg x = some (.ref a) := by
  obtain ⟨C, f, fd, ps, ds, dvs, F, hm, r⟩ := R.ex
  exact ⟨C, hm⟩
theorem MkR.mono {G : Gd} {j k : Nat} {x : Str} {sp : FSp} {dds : List D} (R : MkR G j x sp dds) (h : j ≤ k) : MkR G k x sp dds := by
  obtain ⟨C, f, fd, ps, ds, dvs, F, r⟩ := R.ex
  exact ⟨C, f, fd, ps, ds, dvs, F.mono h, r⟩
/-- within a comprehension -/
structure Cb (G : Gd) (k : Nat) (N : List Str) (sc scope : PySem.Scope) (A : Anc) (X : Cx) : Prop extends Ct G k N (relS scope sc) A X where
  fn : ∀ x, X.fn x = (scope.names.lookup x == some .cell)
section
variable {G : Gd} {k : Nat} {N : List Str} {sc : PySem.Scope} {A : Anc} {X : Cx} (B : Ct G k N sc A X) {mi : TL} {g : TGm} {tt : TB} {te : TM} {i : Nat} {y : Str}
include B
theorem q_comp (own : List (Str × Nat)) {elt tg iter : Expr} {ifs : List Expr} {scope : PySem.Scope} {pos : Pos} (hi : MI A X tg iter mi) (ok : L2.BlkOk N sc scope own)
    (hg : ∀ A' X', Cb G k N sc scope A' X' → MG A' (own.map (·.2)) X' tg g) (ht : ∀ A' X', Cb G k N sc scope A' X' → MTs A' X' ifs tt) (he : ∀ A' X', Cb G k N sc scope A' X' → ME A' X' elt te)
    (hs : ∀ x, PySem.foldedSetIterable iter X.env x = pure x := by intro _; rfl) : ML A X (.ListComp elt [⟨tg, iter, ifs, 0⟩] scope pos) (lComp (own.map (·.2)) mi g tt te) :=
  k_comp B hi ok (fun s H C cl fp => hg _ _ ⟨B.blk s H C cl fp, fun _ => rfl⟩) (fun s H C cl fp => ht _ _ ⟨B.blk s H C cl fp, fun _ => rfl⟩) (fun s H C cl fp => he _ _ ⟨B.blk s H C cl fp, fun _ => rfl⟩) hs
theorem q_setLc (own : List (Str × Nat)) {py : Pos} {elt tg iter : Expr} {ifs : List Expr} {scope : PySem.Scope} {pos spos : Pos} (c : Bool) (hy : N[i]? = some y) (hyl : locB sc y = true) (hk : sc.kind = .function) (hl : (py.line == pos.line) = true)
    (hno : (scope.names.any fun (n, k) => n == y && (k == .local || k == .cell)) = false) (hi : MI A X tg iter mi) (ok : L2.BlkOk N sc scope own)
    (hg : ∀ A' X', Cb G k N sc scope A' X' → MG A' (own.map (·.2)) X' tg g) (ht : ∀ A' X', Cb G k N sc scope A' X' → MTs A' X' ifs tt) (he : ∀ A' X', Cb G k N sc scope A' X' → ME A' X' elt te)
    (hs : ∀ x, PySem.foldedSetIterable iter X.env x = pure x := by intro _; rfl) :
    MS A X (.Assign [.Name y py] (.ListComp elt [⟨tg, iter, ifs, 0⟩] scope pos) spos) (sAsg (lF c (lComp (own.map (·.2)) mi g tt te)) (gN i)) :=
  k_setLc B c hy hyl hk hl hno hi ok (fun s H C cl fp => hg _ _ ⟨B.blk s H C cl fp, fun _ => rfl⟩) (fun s H C cl fp => ht _ _ ⟨B.blk s H C cl fp, fun _ => rfl⟩) (fun s H C cl fp => he _ _ ⟨B.blk s H C cl fp, fun _ => rfl⟩) hs
end
section
variable {G : Gd} {k : Nat} {N : List Str} {sc : PySem.Scope} {A : Anc} {X : Cx} (B : Ct G k N sc A X)
include B
theorem q_set {i : Nat} {x : Str} {pos pos' : Pos} {e : Expr} {ma : TM} (hi : N[i]? = some x) (hl : lcB sc x = true) (hf : X.fn x = true ∨ locB sc x = true) (he : ME A X e ma) (hs : ∀ E : PySem.Env, E.scope = sc → PySem.swapsWith e (some (.Name x pos')) pos.line E = pure false) :
    MS A X (.Assign [.Name x pos'] e pos) (sAsg ma (gN i)) := k_set B hi hl hf he (hs _ B.sc)
end
end Mi
end
section
set_option maxHeartbeats 4000000
namespace L2
open PySem PySem.Spec PyProof.Rows
theorem wpAny_alive {M : Model} {A : Around} {E : Value → Shared → Prop} {s : Shared} {a : Addr} {Q : Option Obj → Shared → Prop} (h : Q (s.heap.get? a) s) : wpAny M A (loadIfAlive a) Q E s := fun Γ p _ => by
  unfold loadIfAlive
  rw [Sem.wp_loadIfAlive]
  exact h
abbrev IsZipF (h : Heap) (z TI TO : Addr) (f0 f1 : Value) : Prop :=
  h.get? z = some { cls := .type "zip", dict := none, data := .fields #[f0, f1, .bool false, .ref TI, .ref TO], slots := #[] }
section
variable {prog : Program} {w : World} {A : Around} {E : Value → Shared → Prop} {s : Shared}
theorem zip_free {z TI TO T : Addr} {f1 : Value} {Q : Bool → Shared → Prop} (hz : IsZipF s.heap z TI TO (rawInt T) f1) (hT : (s.heap.get? T).isSome = true) (h1 : f1 = .bool true ∨ f1 = .bool false)
    (h : ∀ h', IsZipF h' z TI TO (rawInt T) (.bool true) → Heap.SameBut z s.heap h' → Q false { s with heap := h' }) : wpAny (model prog w) A (Builtin.SmallTypes.ownedTupleIsFree (.ref z)) Q E s := by
  unfold Builtin.SmallTypes.ownedTupleIsFree
  refine wpAny_bind (wpAny_field hz rfl (x := rawInt T) rfl ?_)
  show wpAny _ _ (loadIfAlive T >>= _) _ _ _
  refine wpAny_bind (wpAny_alive ?_)
  have hn : (s.heap.get? T).isNone = false := by
    cases e : s.heap.get? T with
    | none => rw [e] at hT; cases hT
    | some o => rfl
  rw [hn]
  simp only [Bool.false_eq_true, if_false]
  refine wpAny_bind (wpAny_field hz rfl (x := f1) rfl ?_)
  rcases h1 with rfl | rfl
  · simp
    refine wpAny_pure ?_
    exact h _ hz (Heap.SameBut.refl _ _)
  · simp
    refine wpAny_bind (wpAny_setField_rec hz (by simp) fun h' hz' hs' => ?_)
    exact wpAny_pure (h _ hz' hs')
theorem zip_next_taken {z TI TO i1 i2 l1 l2 T : Addr} {k1 k2 : Nat} {xs ys : Array Value} {x y a b f1 : Value} {Q : Value → Shared → Prop} (D : ZipApart z TI TO i1 i2 l1 l2)
    (hz : IsZipF s.heap z TI TO (rawInt T) f1) (hT : (s.heap.get? T).isSome = true) (hf1 : f1 = .bool true ∨ f1 = .bool false) (hTI : IsPair s.heap TI (.ref i1) (.ref i2))
    (h1 : s.heap.IsListIter i1 l1 k1) (h2 : s.heap.IsListIter i2 l2 k2) (hl1 : s.heap.IsList l1 xs) (hl2 : s.heap.IsList l2 ys) (hx : xs[k1]? = some x) (hy : ys[k2]? = some y)
    (hQ : ∀ h', IsZipF h' z TI TO (rawInt T) (.bool true) → h'.IsListIter i1 l1 (k1 + 1) → h'.IsListIter i2 l2 (k2 + 1) → IsPair h' s.heap.objs.size x y → h'.objs.size = s.heap.objs.size + 1 →
      (∀ c o, c ≠ z → c ≠ i1 → c ≠ i2 → s.heap.get? c = some o → h'.get? c = some o) → Q (.ref s.heap.objs.size) { s with heap := h' }) :
    wpAny (model prog w) A (Builtin.«zip.__next__» ⟨[.ref z], []⟩) (fun fin s' => ∃ v, fin = .done (.ret v) ∧ Q v s') E s := by
  show wpAny _ _ (field (.ref z) 2 >>= _) _ _ _
  refine wpAny_bind (wpAny_field hz rfl (x := .bool false) rfl ?_)
  show wpAny _ _ (field (.ref z) 3 >>= _) _ _ _
  refine wpAny_bind (wpAny_field hz rfl (x := .ref TI) rfl ?_)
  refine wpAny_bind (wpAny_seqItems hTI rfl ?_)
  show wpAny _ _ (Builtin.SmallTypes.ownedTupleIsFree (.ref z) >>= _) _ _ _
  refine wpAny_bind (zip_free hz hT hf1 fun h₁ hz₁ hs₁ => ?_)
  simp only [Bool.false_eq_true, if_false]
  refine wpAny_bind ?_
  rw [← Array.forIn_toList]
  simp only [List.forIn_cons, List.forIn_nil]
  refine wpAny_bind (wpAny_bind (wpAny_holding ?_))
  show wpAny _ _ (Builtin.SmallTypes.nextOf (.ref i1) >>= _) _ _ _
  refine wpAny_bind (wpAny_nextOf_list_item (h1.extBut hs₁.extBut D.i1z) (hl1.extBut hs₁.extBut D.l1z) hx fun h₂ h1₂ hs₂ => wpAny_pure (wpAny_pure ?_))
  refine wpAny_bind (wpAny_bind (wpAny_holding ?_))
  show wpAny _ _ (Builtin.SmallTypes.nextOf (.ref i2) >>= _) _ _ _
  refine wpAny_bind (wpAny_nextOf_list_item ((h2.extBut hs₁.extBut D.i2z).extBut hs₂.extBut D.i12.symm) ((hl2.extBut hs₁.extBut D.l2z).extBut hs₂.extBut D.l2i1) hy fun h₃ h2₃ hs₃ => wpAny_pure (wpAny_pure (wpAny_pure ?_)))
  refine wpAny_bind (wpAny_newTuple (hsz := by show 2 ≤ sizeLine; decide) ?_)
  have hsz : h₃.objs.size = s.heap.objs.size := by rw [hs₃.1, hs₂.1, hs₁.1]
  have hz₃ : IsZipF h₃ z TI TO (rawInt T) (.bool true) := hs₃.extBut _ _ D.i2z.symm (hs₂.extBut _ _ D.i1z.symm hz₁)
  refine wpAny_pure ⟨_, rfl, ?_⟩
  show Q (.ref h₃.objs.size) _
  rw [hsz]
  have up : ∀ c o, h₃.get? c = some o → (h₃.push { cls := .type "tuple", data := .seq #[x, y] }).get? c = some o := fun c o e => Heap.get?_push_of_some _ e
  refine hQ _ (up _ _ hz₃) ((h1₂.extBut hs₃.extBut D.i12).at fun o e => up _ o e) (h2₃.at fun o e => up _ o e) (by rw [← hsz]; exact Heap.get?_push_size _ rfl) (by rw [Heap.size_push, hsz]) fun c o c1 c2 c3 e => up _ _ (hs₃.extBut _ _ c3 (hs₂.extBut _ _ c2 (hs₁.extBut _ _ c1 e)))
theorem zip_end_taken {z TI TO i1 i2 l1 l2 T : Addr} {k1 : Nat} {xs : Array Value} {f1 : Value} {Q : Fin → Shared → Prop} (hh : A.handled = none) (D : ZipApart z TI TO i1 i2 l1 l2)
    (hz : IsZipF s.heap z TI TO (rawInt T) f1) (hT : (s.heap.get? T).isSome = true) (hf1 : f1 = .bool true ∨ f1 = .bool false) (hTI : IsPair s.heap TI (.ref i1) (.ref i2))
    (h1 : s.heap.IsListIter i1 l1 k1) (hl1 : s.heap.IsList l1 xs) (hx : xs[k1]? = none)
    (hE : ∀ h' e, (∀ c o, c ≠ z → c ≠ i1 → s.heap.get? c = some o → h'.get? c = some o) → (∃ o, h'.get? e = some o ∧ o.cls = .type "StopIteration") → E (.ref e) { s with heap := h' }) :
    wpAny (model prog w) A (Builtin.«zip.__next__» ⟨[.ref z], []⟩) Q E s := by
  show wpAny _ _ (field (.ref z) 2 >>= _) _ _ _
  refine wpAny_bind (wpAny_field hz rfl (x := .bool false) rfl ?_)
  show wpAny _ _ (field (.ref z) 3 >>= _) _ _ _
  refine wpAny_bind (wpAny_field hz rfl (x := .ref TI) rfl ?_)
  refine wpAny_bind (wpAny_seqItems hTI rfl ?_)
  show wpAny _ _ (Builtin.SmallTypes.ownedTupleIsFree (.ref z) >>= _) _ _ _
  refine wpAny_bind (zip_free hz hT hf1 fun h₁ hz₁ hs₁ => ?_)
  simp only [Bool.false_eq_true, if_false]
  refine wpAny_bind ?_
  rw [← Array.forIn_toList]
  simp only [List.forIn_cons, List.forIn_nil]
  refine wpAny_bind (wpAny_bind (wpAny_holding ?_))
  show wpAny _ _ (Builtin.SmallTypes.nextOf (.ref i1) >>= _) _ _ _
  exact wpAny_bind (wpAny_nextOf_list_end hh (h1.extBut hs₁.extBut D.i1z) (hl1.extBut hs₁.extBut D.l1z) hx fun h₂ e hs₂ he => hE h₂ e (fun c o c1 c2 x => hs₂ _ _ c2 (hs₁.extBut _ _ c1 x)) he)
theorem pyNext_taken {z TI TO i1 i2 l1 l2 T : Addr} {k1 k2 : Nat} {xs ys : Array Value} {x y f1 : Value} {Q : Option Value → Shared → Prop} (D : ZipApart z TI TO i1 i2 l1 l2)
    (hz : IsZipF s.heap z TI TO (rawInt T) f1) (hT : (s.heap.get? T).isSome = true) (hf1 : f1 = .bool true ∨ f1 = .bool false) (hTI : IsPair s.heap TI (.ref i1) (.ref i2))
    (h1 : s.heap.IsListIter i1 l1 k1) (h2 : s.heap.IsListIter i2 l2 k2) (hl1 : s.heap.IsList l1 xs) (hl2 : s.heap.IsList l2 ys) (hx : xs[k1]? = some x) (hy : ys[k2]? = some y)
    (hQ : ∀ h', IsZipF h' z TI TO (rawInt T) (.bool true) → h'.IsListIter i1 l1 (k1 + 1) → h'.IsListIter i2 l2 (k2 + 1) → IsPair h' s.heap.objs.size x y → h'.objs.size = s.heap.objs.size + 1 →
      (∀ c o, c ≠ z → c ≠ i1 → c ≠ i2 → s.heap.get? c = some o → h'.get? c = some o) → Q (some (.ref s.heap.objs.size)) { s with heap := h' }) :
    wpAny (model prog w) A (pyNext (.ref z)) Q E s := by
  have hTy : s.TypeIs (.ref z) "zip" := ⟨_, hz, rfl⟩
  unfold pyNext
  exact wpAny_bind (wpAny_attempt (wpAny_callSpecial?_slot (name := Str.ofString "__next__") hTy F.slot_zip_next
    (wpAny_call_entry F.slot_zip_next hTy F.entry_zip_next
      (zip_next_taken (a := .none) (b := .none) D hz hT hf1 hTI h1 h2 hl1 hl2 hx hy fun h' a1 a3 a4 a5 a6 a7 => wpAny_pure (hQ h' a1 a3 a4 a5 a6 a7)) (F.args_zip_next_1 _))))
theorem pyNext_takenEnd {z TI TO i1 i2 l1 l2 T : Addr} {k1 : Nat} {xs : Array Value} {f1 : Value} {Q : Option Value → Shared → Prop} (hh : A.handled = none) (D : ZipApart z TI TO i1 i2 l1 l2)
    (hz : IsZipF s.heap z TI TO (rawInt T) f1) (hT : (s.heap.get? T).isSome = true) (hf1 : f1 = .bool true ∨ f1 = .bool false) (hTI : IsPair s.heap TI (.ref i1) (.ref i2))
    (h1 : s.heap.IsListIter i1 l1 k1) (hl1 : s.heap.IsList l1 xs) (hx : xs[k1]? = none)
    (hQ : ∀ h', (∀ c o, c ≠ z → c ≠ i1 → s.heap.get? c = some o → h'.get? c = some o) → Q none { s with heap := h' }) : wpAny (model prog w) A (pyNext (.ref z)) Q E s := by
  have hTy : s.TypeIs (.ref z) "zip" := ⟨_, hz, rfl⟩
  unfold pyNext
  refine wpAny_bind (wpAny_attempt (wpAny_callSpecial?_slot (name := Str.ofString "__next__") hTy F.slot_zip_next
    (wpAny_call_entry F.slot_zip_next hTy F.entry_zip_next (zip_end_taken hh D hz hT hf1 hTI h1 hl1 hx fun h' e hk he => ?_) (F.args_zip_next_1 _))))
  obtain ⟨o, ho, hc⟩ := he
  refine wpAny_bind (wpAny_isInstance (T := "StopIteration") (b := true) ⟨o, ho, hc⟩ isSubtype_stop ?_)
  exact wpAny_pure (hQ _ hk)
end
end L2
end
section
set_option maxHeartbeats 4000000
namespace L2
open PySem PySem.Spec PyProof.Rows
theorem nolen_zip : typeLookup (.type "zip") "__len__" = pure none := by rw [typeLookup_type, builtinLookup_eq_fast]; kernel_rfl
theorem nohint_zip : typeLookup (.type "zip") "__length_hint__" = pure none := by rw [typeLookup_type, builtinLookup_eq_fast]; kernel_rfl
section
variable {X : Cx} {pins : List (Addr × Obj)} {σ : St} {z TI TO i1 i2 a b S : Addr} {xs ys : List V} {n : Nat}
/-- the zip object at the i-th turn, its last pair held by the list -/
structure ZSt (H : Hp) (h : Heap) (z TI TO i1 i2 a b : Addr) (i : Nat) : Prop where
  zz : (i = 0 ∧ IsZip h z TI TO .none ∧ ∃ x y, IsPair h TO x y) ∨ (0 < i ∧ ∃ (T : Addr) (f1 : Value) (ts : List V), IsZipF h z TI TO (rawInt T) f1 ∧ (f1 = .bool true ∨ f1 = .bool false) ∧ H T = some (.tup ts))
  ti : IsPair h TI (.ref i1) (.ref i2)
  h1 : h.IsListIter i1 a i
  h2 : h.IsListIter i2 b i
  lt : ∀ c ∈ [z, TI, TO, i1, i2], c < h.objs.size
theorem zip_loop (hc : X.calm = true) (D : ZipApart z TI TO i1 i2 a b) (hxl : xs.length = n) (hyl : ys.length = n) (hn : n ≤ 4000) (hpos : 0 < n) (J : Nat → List V → Hp → Prop)
    (hJ : ∀ i acc H, J i acc H → SqL X.K H a xs ∧ SqL X.K H b ys)
    (turn : ∀ i acc H x y T, J i acc H → H S = some (.lst acc) → acc.length = i → xs[i]? = some x → ys[i]? = some y → H T = none → J (i + 1) (acc ++ [.ref T]) (upd (upd H T (.tup [x, y])) S (.lst (acc ++ [.ref T]))))
    {R : Result → Shared → Prop} {A : Around} (hh : A.handled = none) (done : ∀ acc H' s', J n acc H' → H' S = some (.lst acc) → Inv X pins σ H' s' → R (.ok (.ret .none)) s') :
    ∀ (k i : Nat) (acc : List V) (H : Hp) (s : Shared), n - i = k → i ≤ n → J i acc H → acc.length = i → H S = some (.lst acc) → Inv X pins σ H s → (∀ c ∈ [z, TI, TO, i1, i2], FpOk X pins H c) → ZSt H s.heap z TI TO i1 i2 a b i →
      codeAny (model X.prog X.w) A (.builtin "list.extend.loop" ⟨[.ref S, .ref z, .none], []⟩) R s := by
  intro k
  induction k with
  | zero =>
    intro i acc H s hk hi hj hacc hS I hf st
    have hin : i = n := by omega
    subst hin
    refine codeAny_builtin F.entry_extend_loop ?_
    rw [Around.under_plainId F.plain_extend_loop _]
    show wpAny _ A.in1 (pyNext (.ref z) >>= _) _ _ s
    obtain ⟨hqx, hqy⟩ := hJ _ _ _ hj
    obtain ⟨its, rv, p, _⟩ := I.list hqx
    have he : its.toArray[i]? = none := by
      have := rv.length
      simp; omega
    rcases st.zz with ⟨h0, _⟩ | ⟨_, T, f1, ts, hz, hf1, hT⟩
    · omega
    · have hTa : (s.heap.get? T).isSome = true := by
        obtain ⟨its', r, ⟨o, ho, _⟩, _⟩ := I.tuple (.inl (.inl hT))
        rw [ho]; rfl
      refine wpAny_bind (pyNext_takenEnd (A := A.in1) hh D hz hTa hf1 st.ti st.h1 p.isList he fun h' hk => ?_)
      refine wpAny_pure ?_
      exact done acc H _ hj hS (I.turnedL (t' := s.toks) (ch := [z, TI, TO, i1, i2]) (fun c o hb q => hk c o (fun q' => hb (by simp [q'])) (fun q' => hb (by simp [q'])) q) hf)
  | succ k ih =>
    intro i acc H s hk hi hj hacc hS I hf st
    have hlt : i < n := by omega
    refine codeAny_builtin F.entry_extend_loop ?_
    rw [Around.under_plainId F.plain_extend_loop _]
    show wpAny _ A.in1 (pyNext (.ref z) >>= _) _ _ s
    obtain ⟨hqx, hqy⟩ := hJ _ _ _ hj
    obtain ⟨its, rv, p, _⟩ := I.list hqx
    obtain ⟨its2, rv2, p2, _⟩ := I.list hqy
    have hx : xs[i]? = some xs[i] := List.getElem?_eq_getElem (by omega)
    have hy : ys[i]? = some ys[i] := List.getElem?_eq_getElem (by omega)
    obtain ⟨u, hu, ru⟩ := rv.get hx
    obtain ⟨u2, hu2, ru2⟩ := rv2.get hy
    have hT0 : H s.heap.objs.size = none := I.hok.fresh (Nat.le_refl _)
    have hSch : S ∉ [z, TI, TO, i1, i2] := fun hm => by
      have := (hf S hm).1
      rw [hS] at this; cases this
    have hSlt : S < s.heap.objs.size := by
      obtain ⟨_, its', n', _, _, e⟩ := I.lstM hS
      exact Heap.lt_size e
    have hzl : z < s.heap.objs.size := by
      rcases st.zz with ⟨_, hz, _⟩ | ⟨_, T, f1, ts, hz, _⟩
      · exact Heap.lt_size hz
      · exact Heap.lt_size hz
    -- what is common to both ways of the next pair
    have rest : ∀ h' : Heap, (∃ f1, IsZipF h' z TI TO (rawInt s.heap.objs.size) f1 ∧ (f1 = .bool true ∨ f1 = .bool false)) ∨ (0 < i ∧ ∃ (T : Addr) (ts : List V), IsZipF h' z TI TO (rawInt T) (.bool true) ∧ H T = some (.tup ts)) →
        h'.IsListIter i1 a (i + 1) → h'.IsListIter i2 b (i + 1) → IsPair h' s.heap.objs.size u u2 → h'.objs.size = s.heap.objs.size + 1 → (∀ c o, c ∉ [z, TI, TO, i1, i2] → s.heap.get? c = some o → h'.get? c = some o) → IsPair h' TI (.ref i1) (.ref i2) →
        wpAny (model X.prog X.w) A.in1 (updateSeq S (·.push (.ref s.heap.objs.size)) >>= fun _ => again (.builtin "list.extend.loop" ⟨[.ref S, .ref z, .none], []⟩))
          (fun fin s' => match fin with | .done f => R (.ok f) s' | .again c' => c'.quiet = true ∧ codeAny (model X.prog X.w) A c' R s') (fun e s' => R (.error e) s') { s with heap := h' } := by
      intro h' hz' h1' h2' hT hsz hk' hTI'
      have new : ObjOk X.prog X.w (upd H s.heap.objs.size (.tup [xs[i], ys[i]])) h' s.heap.objs.size (.tup [xs[i], ys[i]]) :=
        ⟨by show 2 ≤ sizeLine; decide, [u, u2], .cons ru (.cons ru2 .nil), ⟨_, hT, rfl, _, rfl⟩⟩
      have I1 : Inv X pins σ (upd H s.heap.objs.size (.tup [xs[i], ys[i]])) { s with heap := h' } := I.turnedNew (t' := s.toks) (ch := [z, TI, TO, i1, i2]) hk' hf (Nat.le_refl _) new
      have hS1 : upd H s.heap.objs.size (.tup [xs[i], ys[i]]) S = some (.lst acc) := by rw [upd_ne (Nat.ne_of_lt hSlt)]; exact hS
      obtain ⟨zz, its', n', r', hl', e'⟩ := I1.lstM hS1
      have hle : its'.toArray.size ≤ sizeLine := by rw [List.size_toArray, ← hl', hacc, Mi.lim_eq]; show i ≤ 16777216; omega
      refine wpAny_bind (wpAny_updateSeq e' rfl (hz := hle) (_hz' := by rw [Array.size_push]; omega) (wpAny_pure ⟨plainId_quiet F.plain_extend_loop _, ?_⟩))
      have I2 : Inv X pins σ (upd (upd H s.heap.objs.size (.tup [xs[i], ys[i]])) S (.lst (acc ++ [.ref s.heap.objs.size]))) { s with heap := h'.update S (Obj.mapSeq (·.push (.ref s.heap.objs.size))) } :=
        I1.lset (t' := s.toks) (its' := its' ++ [.ref s.heap.objs.size]) hS1 e' (by simp) (r'.append (.cons (a := V.ref s.heap.objs.size) (b := Value.ref s.heap.objs.size) rfl .nil)) (by rw [List.length_append, List.length_singleton, hacc, Mi.lim_eq]; show i + 1 ≤ 16777216; omega)
      have oth : ∀ c o, c ≠ S → h'.get? c = some o → (h'.update S (Obj.mapSeq (·.push (.ref s.heap.objs.size)))).get? c = some o := fun c o hb q => (Heap.get?_update_other _ _ (Ne.symm hb)).trans q
      have ne : ∀ c, c ∈ [z, TI, TO, i1, i2] → c ≠ S := fun c hm e => hSch (e ▸ hm)
      refine ih (i + 1) _ _ _ (by omega) hlt (turn i acc H _ _ _ hj hS hacc hx hy hT0) (by simp [hacc]) upd_same I2 (fun c hm => ?_) ⟨.inr ⟨Nat.succ_pos i, ?_⟩, oth _ _ (ne _ (by simp)) hTI', h1'.at fun o q => oth _ o (ne _ (by simp)) q, h2'.at fun o q => oth _ o (ne _ (by simp)) q, fun c hm => ?_⟩
      · have q := hf c hm
        have hclt : c ≠ s.heap.objs.size := Nat.ne_of_lt (st.lt c hm)
        refine ⟨?_, q.2⟩
        rw [upd_ne (ne c hm), upd_ne hclt]
        exact q.1
      · rcases hz' with ⟨f1, hz', hf1⟩ | ⟨_, T, ts, hz', hT'⟩
        · refine ⟨s.heap.objs.size, f1, [xs[i], ys[i]], oth _ _ (ne _ (by simp)) hz', hf1, ?_⟩
          rw [upd_ne (Nat.ne_of_gt hSlt)]; exact upd_same
        · refine ⟨T, _, ts, oth _ _ (ne _ (by simp)) hz', .inl rfl, ?_⟩
          have t1 : T ≠ S := fun e => by subst e; rw [hS] at hT'; cases hT'
          have t2 : T ≠ s.heap.objs.size := fun e => by subst e; rw [hT0] at hT'; cases hT'
          rw [upd_ne t1, upd_ne t2]; exact hT'
      · show c < (h'.update S (Obj.mapSeq (·.push (.ref s.heap.objs.size)))).objs.size
        rw [(Heap.SameBut.update h' S _).1, hsz]
        exact Nat.lt_succ_of_lt (st.lt c hm)
    rcases st.zz with ⟨h0, hz, x0, y0, hTO⟩ | ⟨h0, T, f1, ts, hz, hf1, hT⟩
    · refine wpAny_bind (wpAny_pyNext_zip_item D hz st.ti hTO st.h1 st.h2 p.isList p2.isList (x := u) (y := u2) (by simpa using hu) (by simpa using hu2) fun h' z' TO' h1' h2' hT hsz hk => ?_)
      refine rest h' (.inl ⟨.bool false, z', .inr rfl⟩) h1' h2' hT hsz (fun c o hb q => hk c o (fun q' => hb (by simp [q'])) (fun q' => hb (by simp [q'])) (fun q' => hb (by simp [q'])) (fun q' => hb (by simp [q'])) q) (hk _ _ D.TIz D.TITO D.TIi1 D.TIi2 st.ti)
    · have hTa : (s.heap.get? T).isSome = true := by
        obtain ⟨its', r, ⟨o, ho, _⟩, _⟩ := I.tuple (.inl (.inl hT))
        rw [ho]; rfl
      refine wpAny_bind (pyNext_taken D hz hTa hf1 st.ti st.h1 st.h2 p.isList p2.isList (x := u) (y := u2) (by simpa using hu) (by simpa using hu2) fun h' z' h1' h2' hTn hsz hk => ?_)
      refine rest h' (.inr ⟨h0, T, ts, z', hT⟩) h1' h2' hTn hsz (fun c o hb q => hk c o (fun q' => hb (by simp [q'])) (fun q' => hb (by simp [q'])) (fun q' => hb (by simp [q'])) q) (hk _ _ D.TIz D.TIi1 D.TIi2 st.ti)
end
end L2
end
section
set_option maxHeartbeats 4000000
namespace L2
open PySem PySem.Spec PyProof.Rows
def kZl (K : PySem.W.Frag) (vs : List V) (H1 : Hp) (Q : VK) : Prop := ∃ a b xs ys n, vs = [.ref a, .ref b] ∧ SqL K H1 a xs ∧ SqL K H1 b ys ∧ xs.length = n ∧ ys.length = n ∧ 0 < n ∧ n ≤ 4000 ∧ ∀ S, H1 S = none → S ≠ a → S ≠ b →
  ∃ J : Nat → List V → Hp → Prop, J 0 [] (upd H1 S (.lst [])) ∧ (∀ i acc H, J i acc H → SqL K H a xs ∧ SqL K H b ys) ∧
    (∀ i acc H x y T, J i acc H → H S = some (.lst acc) → acc.length = i → xs[i]? = some x → ys[i]? = some y → H T = none → J (i + 1) (acc ++ [.ref T]) (upd (upd H T (.tup [x, y])) S (.lst (acc ++ [.ref T])))) ∧
    ∀ acc H, J n acc H → H S = some (.lst acc) → Q (.ref S) H
section
variable {X : Cx} {pins : List (Addr × Obj)} {σ : St} {z TI TO i1 i2 a b S : Addr} {xs ys : List V} {n : Nat}
theorem list_init_zip (hc : X.calm = true) (D : ZipApart z TI TO i1 i2 a b) (hxl : xs.length = n) (hyl : ys.length = n) (hn : n ≤ 4000) (hpos : 0 < n) (J : Nat → List V → Hp → Prop)
    (hJ : ∀ i acc H, J i acc H → SqL X.K H a xs ∧ SqL X.K H b ys)
    (turn : ∀ i acc H x y T, J i acc H → H S = some (.lst acc) → acc.length = i → xs[i]? = some x → ys[i]? = some y → H T = none → J (i + 1) (acc ++ [.ref T]) (upd (upd H T (.tup [x, y])) S (.lst (acc ++ [.ref T]))))
    {R : Result → Shared → Prop} {A : Around} (hh : A.handled = none) (done : ∀ acc H' s', J n acc H' → H' S = some (.lst acc) → Inv X pins σ H' s' → R (.ok (.ret .none)) s')
    {H : Hp} {s : Shared} (hj : J 0 [] H) (hS : H S = some (.lst [])) (I : Inv X pins σ H s) (hf : ∀ c ∈ [z, TI, TO, i1, i2], FpOk X pins H c) (st : ZSt H s.heap z TI TO i1 i2 a b 0) :
    wpAny (model X.prog X.w) A.in1 (Builtin.«list.__init__» ⟨[.ref S, .ref z], []⟩)
      (fun fin s' => match fin with | .done f => R (.ok f) s' | .again c' => c'.quiet = true ∧ codeAny (model X.prog X.w) A c' R s') (fun e s' => R (.error e) s') s := by
  have hSch : S ∉ [z, TI, TO, i1, i2] := fun hm => by
    have := (hf S hm).1
    rw [hS] at this; cases this
  have ne : ∀ c, c ∈ [z, TI, TO, i1, i2] → c ≠ S := fun c hm e => hSch (e ▸ hm)
  obtain ⟨zz, its', n', r', hl', e'⟩ := I.lstM hS
  have hi0 : its' = [] := by
    have : its'.length = 0 := by rw [← hl']; rfl
    exact List.length_eq_zero_iff.mp this
  subst hi0
  have move : ∀ {h1 h2 : Heap}, ZSt H h1 z TI TO i1 i2 a b 0 → (∀ c o, c ≠ S → h1.get? c = some o → h2.get? c = some o) → h2.objs.size = h1.objs.size → ZSt H h2 z TI TO i1 i2 a b 0 := fun {h1 h2} t k hz => by
    refine ⟨.inl ?_, k _ _ (ne _ (by simp)) t.ti, t.h1.at fun o q => k _ o (ne _ (by simp)) q, t.h2.at fun o q => k _ o (ne _ (by simp)) q, fun c hm => by rw [hz]; exact t.lt c hm⟩
    rcases t.zz with ⟨_, hz, x0, y0, hTO⟩ | ⟨h0, _⟩
    · exact ⟨rfl, k _ _ (ne _ (by simp)) hz, x0, y0, k _ _ (ne _ (by simp)) hTO⟩
    · exact absurd h0 (Nat.lt_irrefl 0)
  have hT : ∀ {h : Heap}, ZSt H h z TI TO i1 i2 a b 0 → ∀ s : Shared, s.heap = h → s.TypeIs (.ref z) "zip" := fun {h} t s e => by
    rcases t.zz with ⟨_, hz, x0, y0, hTO⟩ | ⟨h0, _⟩
    · exact ⟨_, by rw [e]; exact hz, rfl⟩
    · exact absurd h0 (Nat.lt_irrefl 0)
  have hself : ∀ {h : Heap}, ZSt H h z TI TO i1 i2 a b 0 → ∃ f0, IsZip h z TI TO f0 := fun {h} t => by
    rcases t.zz with ⟨_, hz, x0, y0, hTO⟩ | ⟨h0, _⟩
    · exact ⟨_, hz⟩
    · exact absurd h0 (Nat.lt_irrefl 0)
  show wpAny _ A.in1 (do let old ← Builtin.List.listItems (.ref S); Builtin.List.listUpdate (.ref S) (fun _ => #[]); letGo old.toList.reverse; Builtin.List.listExtendWith (.ref S) (.ref z) .none) _ _ s
  refine wpAny_bind ?_
  unfold Builtin.List.listItems
  refine wpAny_bind (wpAny_seqItems e' rfl (wpAny_pure ?_))
  show wpAny _ A.in1 (updateSeq S (fun _ => #[]) >>= fun _ => letGo (#[] : Array Value).toList.reverse >>= fun _ => Builtin.List.listExtendWith (.ref S) (.ref z) .none) _ _ s
  refine wpAny_bind (wpAny_updateSeq e' rfl ?_)
  have I1 : Inv X pins σ (upd H S (.lst [])) { s with heap := s.heap.update S (Obj.mapSeq fun _ => #[]) } := I.lset (t' := s.toks) (its' := []) hS e' rfl .nil (Nat.zero_le _)
  have eH : upd H S (.lst []) = H := by
    funext c
    by_cases q : c = S
    · subst q; rw [upd_same, hS]
    · rw [upd_ne q]
  rw [eH] at I1
  have st1 := move (h2 := s.heap.update S (Obj.mapSeq fun _ => #[])) st (fun c o hb q => (Heap.get?_update_other _ _ (Ne.symm hb)).trans q) (Heap.SameBut.update s.heap S _).1
  refine wpAny_bind (wpAny_letGo ?_)
  obtain ⟨_, its2, n2, r2, hl2, e2⟩ := I1.lstM hS
  have hi2 : its2 = [] := by
    have : its2.length = 0 := by rw [← hl2]; rfl
    exact List.length_eq_zero_iff.mp this
  subst hi2
  have hSz : S ≠ z := (ne z (by simp)).symm
  unfold Builtin.List.listExtendWith
  refine wpAny_bind (wpAny_typeOf (hT st1 _ rfl) ?_)
  have g1 : Builtin.List.listSameRef (.ref S) (.ref z) = false := by simp [Builtin.List.listSameRef, hSz]
  have g2 : (Value.type "zip" == Value.type "list") = false := by decide
  have g3 : (Value.type "zip" == Value.type "tuple") = false := by decide
  simp only [g1, g2, g3, Bool.or_false, Bool.false_eq_true, if_false]
  obtain ⟨f0, hz0⟩ := hself st1
  refine wpAny_bind (wpAny_pyIter_zip hz0 ?_)
  refine wpAny_bind (wpAny_holding ?_)
  unfold Builtin.List.listLengthHint
  refine wpAny_bind (wpAny_specialOf (hT st1 _ rfl) nolen_zip ?_)
  show wpAny _ A.in1 (specialOf (Value.ref z) (Str.ofString "__length_hint__") >>= _) _ _ _
  refine wpAny_bind (wpAny_specialOf (hT st1 _ rfl) nohint_zip ?_)
  refine wpAny_pure ?_
  show wpAny _ A.in1 (rule "list.extend.makes-room" >>= fun _ => Builtin.List.listTouch (.ref S) >>= fun _ =>
    again (.builtin "list.extend.loop" ⟨[.ref S, .ref z, .none], []⟩)) _ _ _
  refine wpAny_bind (wpAny_rule ?_)
  refine wpAny_bind ?_
  show wpAny _ A.in1 (updateSeq S (·.push .none) >>= fun _ => updateSeq S (·.pop)) _ _ _
  refine wpAny_bind (wpAny_updateSeq e2 rfl ?_)
  have I2 : Inv X pins σ (upd H S (.lst [.non])) { s with heap := (s.heap.update S (Obj.mapSeq fun _ => #[])).update S (Obj.mapSeq (·.push Value.none)) } := I1.lset (t' := s.toks) (its' := [.none]) hS e2 rfl (.cons rfl .nil) (by show 1 ≤ sizeLine; decide)
  have hS2 : (upd H S (.lst [.non])) S = some (.lst [.non]) := upd_same
  obtain ⟨_, its3, n3, r3, hl3, e3⟩ := I2.lstM hS2
  have hi3 : ∃ v, its3 = [v] := List.length_eq_one_iff.mp (by rw [← hl3]; rfl)
  obtain ⟨v3, rfl⟩ := hi3
  refine wpAny_updateSeq (hz := by show 1 ≤ sizeLine; decide) (_hz' := by show 0 ≤ sizeLine + 1; exact Nat.zero_le _) e3 rfl ?_
  have I3 : Inv X pins σ (upd (upd H S (.lst [.non])) S (.lst [])) { s with heap := ((s.heap.update S (Obj.mapSeq fun _ => #[])).update S (Obj.mapSeq (·.push Value.none))).update S (Obj.mapSeq (·.pop)) } :=
    I2.lset (t' := s.toks) (its' := []) hS2 e3 (by simp) .nil (Nat.zero_le _)
  have eH3 : upd (upd H S (.lst [.non])) S (.lst []) = H := by
    funext c
    by_cases q : c = S
    · subst q; rw [upd_same, hS]
    · rw [upd_ne q, upd_ne q]
  rw [eH3] at I3
  have st3 := move (h2 := ((s.heap.update S (Obj.mapSeq fun _ => #[])).update S (Obj.mapSeq (·.push Value.none))).update S (Obj.mapSeq (·.pop))) st1
    (fun c o hb q => (Heap.get?_update_other _ _ (Ne.symm hb)).trans ((Heap.get?_update_other _ _ (Ne.symm hb)).trans q)) ((Heap.SameBut.update _ S _).1.trans (Heap.SameBut.update _ S _).1)
  exact wpAny_pure ⟨plainId_quiet F.plain_extend_loop _, zip_loop hc D hxl hyl hn hpos J hJ turn hh done n 0 [] H _ (by omega) (Nat.zero_le _) hj rfl hS I3 hf st3⟩
end
end L2
end
section
set_option maxHeartbeats 4000000
namespace L2
open PySem PySem.Spec PyProof.Rows
section
variable {X : Cx} {e e2 : Expr} {ta : TA} {p p2 q pos : Pos}
theorem pe_listZip (hg : Gl X "list") (hm : X.mg "list" = none) (hg2 : Gl X "zip") (hm2 : X.mg "zip" = none) (ha : PA X [e, e2] ta) (hc : X.calm = true)
    (hs : starEach [e, e2] X.env = (false, eval e X.env) :: starEach [e2] X.env := by rfl) (hpl : (backTo q (starEach [e2] X.env)).any (·.1) = false := by rfl) :
    PE X (.Call (.Name "list" p) [.Call (.Name "zip" p2) [e, e2] [] q] [] pos) (fun σ H Q => ta σ H fun vs H1 => kZl X.K vs H1 Q) := by
  refine ⟨fun pins s σ H Q I h => ?_⟩
  refine Call_ (ld_blt I hg hm Mi.bb_list ?_)
  refine PyProof.Rows.callWith_type1 (PyProof.Rows.args_cons ?_ rfl) rfl rfl
  refine Call_ (ld_blt I hg2 hm2 Mi.bb_zip ?_)
  refine PyProof.Rows.callWith_type1 (thn (ha.run q pins s σ H _ I h) fun us s1 ⟨vs, H1, I1, r1, q1⟩ => ?_) hs hpl
  obtain ⟨a, b, xs, ys, n, ev, hqx, hqy, hxl, hyl, hpos, hn, q1⟩ := q1
  subst ev
  cases r1 with
  | cons r rr =>
    cases rr with
    | cons r' rr =>
      cases rr
      cases r
      cases r'
      obtain ⟨its, rv, p1, _⟩ := I1.list hqx
      obtain ⟨its2, rv2, p2', _⟩ := I1.list hqy
      refine call_zip_2 p1.isList p2'.isList fun h' hz hTI hTO h1 h2 hsz hk => ?_
      refine PyProof.Rows.args_nil ?_
      have I2 : Inv X pins σ H1 { s1 with heap := h' } := I1.kept (t' := s1.toks) hk
      have memle : ∀ c, c ∈ [s1.heap.objs.size + 4, s1.heap.objs.size + 2, s1.heap.objs.size + 3, s1.heap.objs.size, s1.heap.objs.size + 1] → s1.heap.objs.size ≤ c ∧ c < s1.heap.objs.size + 5 := fun c hcm => by
        have e' : c = s1.heap.objs.size + 4 ∨ c = s1.heap.objs.size + 2 ∨ c = s1.heap.objs.size + 3 ∨ c = s1.heap.objs.size ∨ c = s1.heap.objs.size + 1 := by simpa using hcm
        rcases e' with z | z | z | z | z <;> rw [z] <;> constructor <;> omega
      let S : Addr := h'.objs.size
      have hS5 : S = s1.heap.objs.size + 5 := hsz
      have hSn : H1 S = none := I2.hok.fresh (Nat.le_refl _)
      have la : a < s1.heap.objs.size := p1.lt
      have lb : b < s1.heap.objs.size := p2'.lt
      obtain ⟨J, j0, hJ, turn, done⟩ := q1 S hSn (by rw [hS5]; exact Nat.ne_of_gt (Nat.lt_of_lt_of_le la (Nat.le_add_right _ _))) (by rw [hS5]; exact Nat.ne_of_gt (Nat.lt_of_lt_of_le lb (Nat.le_add_right _ _)))
      have I3 : Inv X pins σ (upd H1 S (.lst [])) { s1 with heap := h'.push { cls := .type "list", data := .seq #[] } } := I2.lnew (t' := s1.toks) (its := []) .nil (Nat.zero_le _)
      have up : ∀ c o, h'.get? c = some o → (h'.push { cls := .type "list", data := .seq #[] }).get? c = some o := fun c o q => Heap.get?_push_of_some _ q
      refine callType_codes (Q₁ := fun obj s₁ => obj = .ref S ∧ s₁ = { s1 with heap := h'.push { cls := .type "list", data := .seq #[] } }) F.called_list (F.typeCall_list_1 _) F.entry_list_init
        (code_list_new (s := { s1 with heap := h' }) _ ⟨rfl, rfl⟩) fun obj s₁ h₁ => ?_
      obtain ⟨rfl, rfl⟩ := h₁
      have hh : X.A.handled = none := I1.ok.hd hc
      have hSo : (h'.push { cls := .type "list", data := .seq #[] }).get? S = some { cls := .type "list", data := .seq #[] } := Heap.get?_push_size _ rfl
      refine ⟨⟨_, hSo, rfl⟩, F.args_list_init_2 _ _, ?_⟩
      refine list_init_zip (A := X.A.in1) hc (PySem.W.ktu_apart s1.heap.objs.size a b la lb) hxl hyl hn hpos J hJ turn hh (fun acc H' s' hj hS' I' => ?_) j0 upd_same I3 (fun c hcm => ?_) ⟨.inl ⟨rfl, up _ _ hz, _, _, up _ _ hTO⟩, up _ _ hTI, h1.at fun o q => up _ o q, h2.at fun o q => up _ o q, fun c hcm => ?_⟩
      · exact ⟨rfl, .ref S, H', I', rfl, done acc H' hj hS'⟩
      · obtain ⟨m1, m2⟩ := memle c hcm
        refine I1.fpOk m1 ?_
        rw [upd_ne (by rw [hS5]; exact Nat.ne_of_lt m2)]
        exact I1.hok.fresh m1
      · show c < (h'.push { cls := .type "list", data := .seq #[] }).objs.size
        rw [Heap.size_push, hsz]
        exact Nat.lt_succ_of_lt (memle c hcm).2
end
end L2
namespace Mi
open PySem (Str Addr Value Expr Stmt Pos PyData)
open L2 (V Hp HO SqL SqT upd upd_same upd_ne Cx TE TT TA TS TG TI It PE PT PA PS PSs PG PI VK XK WX Ends)
/-- list(zip(a, b)) of two lists of one length -/
def lZip (a b : TM) : TL := fun env M P E => a env M (fun d M1 => b env M1 (fun e M2 => ∃ xs ys, (d = .lst xs ∧ e = .lst ys) ∧ (xs.length = ys.length ∧ 0 < xs.length ∧ xs.length ≤ 4000) ∧ P (zipD xs ys) M2) E) E
theorem zipD_snoc : ∀ {xs ys : List D} {i : Nat} {x y : D}, xs[i]? = some x → ys[i]? = some y → zipD (xs.take (i + 1)) (ys.take (i + 1)) = zipD (xs.take i) (ys.take i) ++ [.tup [x, y]]
  | [], _, _, _, _, h, _ => by simp at h
  | _ :: _, [], _, _, _, _, h => by simp at h
  | a :: xs, b :: ys, 0, x, y, h, h' => by
    simp at h h'
    subst h h'
    simp [zipD]
  | a :: xs, b :: ys, i + 1, x, y, h, h' => by
    have := zipD_snoc (xs := xs) (ys := ys) (i := i) (x := x) (y := y) (by simpa using h) (by simpa using h')
    rw [List.take_succ_cons, List.take_succ_cons, List.take_succ_cons, List.take_succ_cons]
    show zipD (a :: xs.take (i + 1)) (b :: ys.take (i + 1)) = zipD (a :: xs.take i) (b :: ys.take i) ++ _
    simp only [zipD]
    rw [this]
    rfl
section
variable {A : Anc} {X : Cx} (F : Fit A X) {a b : Expr} {ma mb : TM} {p p2 q pos : Pos}
include F
theorem ml_zip (hc : X.calm = true) (hb : Blt X "list" (.type "list")) (hb2 : Blt X "zip" (.type "zip")) (ha : ME A X a ma) (hbb : ME A X b mb)
    (hs : PySem.starEach [a, b] X.env = (false, PySem.eval a X.env) :: PySem.starEach [b] X.env := by rfl) (hs2 : PySem.starEach [b] X.env = (false, PySem.eval b X.env) :: PySem.starEach [] X.env := by rfl)
    (hpl : (PySem.backTo q (PySem.starEach [b] X.env)).any (·.1) = false := by rfl) : ML A X (.Call (.Name "list" p) [.Call (.Name "zip" p2) [a, b] [] q] [] pos) (lZip ma mb) := by
  refine pe_imp (L2.pe_listZip hb.1 hb.2.1 hb2.1 hb2.2.1 (L2.pa_cons ha (L2.pa_cons hbb L2.pa_nil hs2) hs) hc hs hpl) ?_
  intro σ H Q ⟨W, env, M, P, s, h, k⟩
  refine ⟨W, env, M, _, s, h, fun W1 d M1 v1 H1 s1 rm1 r1 h1 => ?_⟩
  have S1 := s.next s1 rm1
  refine ⟨W1, env, M1, _, S1, h1, fun W2 e M2 v2 H2 s2 rm2 r2 ⟨xs, ys, ⟨ed, ee⟩, ⟨hl, hp, hn⟩, hP⟩ => ?_⟩
  subst ed ee
  have S2 := S1.next s2 rm2
  have hK : W2.K = X.K := S2.K F
  obtain ⟨pa, us, rfl, fa, ta⟩ := vr_lstF (VR.mono s2.le _ _ r1)
  obtain ⟨pb, ws, rfl, fb, tb⟩ := vr_lstF r2
  refine ⟨pa, pb, us, ws, xs.length, rfl, .inl (.inl (rm2.sub _ _ fa)), .inl (.inl (rm2.sub _ _ fb)), ta.length, by rw [tb.length, hl], hp, hn, fun S hS _ _ => ?_⟩
  refine ⟨fun i acc H' => ∃ W', Step W2 H2 W' H' ∧ RelM W' M2 H' ∧ H' S = some (.lst acc) ∧ VRs W' (zipD (xs.take i) (ys.take i)) acc ∧ W'.F S = none ∧ S ∉ W'.ι ∧ i ≤ xs.length, ?_, ?_, ?_, ?_⟩
  · obtain ⟨a1, a2, a3, a4⟩ := rm2.loose (o := .lst []) hS
    exact ⟨W2, a2, a1, upd_same, by simp [zipD]; exact .nil, a3, a4, Nat.zero_le _⟩
  · rintro i acc H' ⟨W', st, rm, _, _, _, _, _⟩
    exact ⟨.inl (.inl (rm.sub _ _ (st.le.F _ _ fa))), .inl (.inl (rm.sub _ _ (st.le.F _ _ fb)))⟩
  · rintro i acc H' x y T ⟨W', st, rm, hSl, rv, hF, hι, hi⟩ hSacc hlen hx hy hT
    have hi2 : i < xs.length := by
      have := (List.getElem?_eq_some_iff.mp hx).1
      rw [ta.length] at this; exact this
    have hi3 : i < ys.length := by rw [← hl]; exact hi2
    obtain ⟨vx, hvx, rx⟩ := ta.get (List.getElem?_eq_getElem hi2)
    obtain ⟨vy, hvy, ry⟩ := tb.get (List.getElem?_eq_getElem hi3)
    rw [hx] at hvx; cases hvx
    rw [hy] at hvy; cases hvy
    obtain ⟨W3, b1, b2, b3⟩ := lay_tup (xs := [xs[i], ys[i]]) rm hT (.cons (VR.mono st.le _ _ rx) (.cons (VR.mono st.le _ _ ry) .nil))
    have hTS : S ≠ T := fun e => by subst e; rw [hSl] at hT; cases hT
    obtain ⟨c1, c2, c3⟩ := b1.loose (by rw [hSl]) hF hι
    refine ⟨W3, (st.trans b1).grow hS, b2.grow c2 c3, upd_same, ?_, c2, c3, hi2⟩
    rw [zipD_snoc (List.getElem?_eq_getElem hi2) (List.getElem?_eq_getElem hi3)]
    exact (VRs.mono b1.le _ _ rv).append (.cons b3 .nil)
  · rintro acc H' ⟨W', st, rm, hSl, rv, hF, hι, _⟩ _
    refine k W' (zipD xs ys) M2 S H' ((s1.trans s2).trans st) rm ⟨hF, hι, acc, hSl, ?_⟩ (back_none (s1.trans s2) rm2 hS) hP
    · rw [hl] at rv
      rw [← hl] at rv
      rw [List.take_length, hl, List.take_length] at rv
      exact rv
end
end Mi
end
section
set_option maxHeartbeats 4000000
namespace L2
open PySem PySem.Spec PyProof.Rows
section
variable {P : Program} {w : World} {A : Around} {E : Value → Shared → Prop} {asked walked r : Addr} {S2 : Int → Bool} {n2 ep : Nat} {id : String}
abbrev andBody (id : String) (asked walked r : Addr) (was : Nat) : (Int × Value) → PUnit → Sem (ForInStep PUnit) := fun p _ => do
  holding [p.2] do
    if (← setFind asked p.2 p.1).isSome then
      let _ ← setAddHashed r p.2 p.1
  Builtin.Frozenset.unchanged id walked was
  pure (ForInStep.yield PUnit.unit)
theorem and_loop (har : asked ≠ r) (hwr : walked ≠ r) {ow : Obj} {esw : Array (Int × Value)} {tw : SetTable} (hdw : ow.data = .set esw ep tw) (hfw : tw.fits esw.size = true) : ∀ (l : List (Int × Value)) (s : Shared) (Sr : Int → Bool) (nr : Nat) (Q : PUnit → Shared → Prop), (∀ e ∈ l, GoodE e) →
    SetR w s.heap asked S2 n2 → SetR w s.heap r Sr nr → nr + l.length + 1 < scanBound → s.heap.get? walked = some ow →
    (∀ h' n', SetR w h' r (fun k => Sr k || ((l.map keyOf).contains k && S2 k)) n' → n' ≤ nr + l.length → (∀ b o, b ≠ r → s.heap.get? b = some o → h'.get? b = some o) → Q PUnit.unit { s with heap := h' }) →
    wpAny (model P w) A (forIn l PUnit.unit (andBody id asked walked r ep)) Q E s := by
  intro l
  induction l with
  | nil =>
    intro s Sr nr Q _ _ R _ _ hQ
    rw [List.forIn_nil]
    exact wpAny_pure (hQ s.heap nr (R.congr fun k => by simp) (by simp) fun b o _ e => e)
  | cons e l ih =>
    intro s Sr nr Q hg R2 R hb hw hQ
    rw [List.forIn_cons]
    obtain ⟨k, tk, e1, e2⟩ := hg e (by simp)
    have hk : keyOf e = k := by unfold keyOf; rw [e1]
    have hash : e.1 = (intKind P w).hash k := e2
    have ep_ok : ∀ s' : Shared, s'.heap.get? walked = some ow → ∀ (Q' : Unit → Shared → Prop), Q' () s' → wpAny (model P w) A (Builtin.Frozenset.unchanged id walked ep) Q' E s' := fun s' hw' Q' q => by
      unfold Builtin.Frozenset.unchanged setEpoch
      refine wpAny_bind (wpAny_bind (wpAny_setState_of hw' hdw hfw (wpAny_pure ?_)))
      simp
      exact wpAny_pure q
    refine wpAny_bind ?_
    show wpAny _ _ (holding [e.2] _ >>= _) _ _ _
    refine wpAny_bind (wpAny_holding ?_)
    rw [e1, hash]
    refine wpAny_bind (wpAny_setFind_of (intKind_is P w k tk) rfl R2.setOf fun res hres => ?_)
    rw [List.length_cons] at hb
    by_cases hS : S2 k = true
    · rw [hS] at hres
      rw [if_pos (by rw [hres])]
      refine wpAny_bind (setR_add_hashed R (by omega) fun h' sb R' => wpAny_pure ?_)
      have hw' : h'.get? walked = some ow := (sb.2 _ hwr).trans hw
      refine wpAny_bind (ep_ok { s with heap := h' } hw' _ (wpAny_pure ?_))
      refine ih { s with heap := h' } _ _ Q (fun e' he' => hg e' (by simp [he'])) (R2.at fun o q => (sb.2 _ har).trans q) R' (by split <;> omega) hw' fun h'' n' R'' hn' k' => ?_
      refine hQ h'' n' (R''.congr fun j => ?_) (by rw [List.length_cons]; split at hn' <;> omega) fun b o hb' q => k' b o hb' ((sb.2 b hb').trans q)
      rw [List.map_cons, List.contains_cons, hk]
      by_cases hj : j = k
      · subst hj; simp [hS]
      · have : (j == k) = false := beq_eq_false_iff_ne.mpr hj
        simp [this, hj]
    · have hS' : S2 k = false := by simpa using hS
      rw [hS'] at hres
      rw [if_neg (by rw [hres]; decide)]
      refine wpAny_pure ?_
      refine wpAny_bind (ep_ok s hw _ (wpAny_pure ?_))
      refine ih s _ _ Q (fun e' he' => hg e' (by simp [he'])) R2 R (by omega) hw fun h'' n' R'' hn' k' => ?_
      refine hQ h'' n' (R''.congr fun j => ?_) (by rw [List.length_cons]; omega) k'
      rw [List.map_cons, List.contains_cons, hk]
      by_cases hj : j = k
      · subst hj; simp [hS']
      · have : (j == k) = false := beq_eq_false_iff_ne.mpr hj
        simp [this]
end
end L2
end
section
set_option maxHeartbeats 4000000
namespace L2
open PySem PySem.Spec PyProof.Rows
section
variable {P : Program} {w : World} {A : Around} {E : Value → Shared → Prop} {s : Shared}
theorem quiet_entries {β : Type} {l : List (Int × Value)} {r : β} {f : Int × Value → β → Sem (ForInStep β)} (hg : ∀ e ∈ l, GoodE e) 
    (hf : ∀ e, GoodE e → f e r = pure (.yield r)) : ∀ (Q : β → Shared → Prop), Q r s → wpAny (model P w) A (forIn l r f) Q E s := by
  induction l with
  | nil => intro Q q; rw [List.forIn_nil]; exact wpAny_pure q
  | cons e l ih =>
    intro Q q
    rw [List.forIn_cons, hf e (hg e (by simp))]
    exact wpAny_bind (wpAny_pure (ih (fun e' h => hg e' (by simp [h])) Q q))
theorem loop_same {α β : Type} {r : β} {f : α → β → Sem (ForInStep β)} : ∀ {l : List α} (hf : ∀ e ∈ l, ∀ Q' : ForInStep β → Shared → Prop, Q' (.yield r) s → wpAny (model P w) A (f e r) Q' E s) (Q : β → Shared → Prop), Q r s → wpAny (model P w) A (forIn l r f) Q E s := by
  intro l
  induction l with
  | nil => intro hf Q q; rw [List.forIn_nil]; exact wpAny_pure q
  | cons e l ih =>
    intro hf Q q
    rw [List.forIn_cons]
    exact wpAny_bind (hf e (by simp) _ (ih (fun e' h => hf e' (by simp [h])) Q q))
theorem setsQuiet_nil {Q : Bool → Shared → Prop} (l : List Addr) (hl : ∀ a ∈ l, ∃ S n, SetR w s.heap a S n) (q : Q true s) : wpAny (model P w) A (setsQuiet l) Q E s := by
  unfold setsQuiet
  refine wpAny_bind (loop_same (fun a ha Q' q' => ?_) _ ?_)
  · obtain ⟨S, n, o, es, ep, t, ho, hx, hd, g, nd, hm, hb, hf, hn, _⟩ := hl a ha
    refine wpAny_bind ?_
    unfold setEntries
    refine wpAny_bind (wpAny_setState_of ho hd hf (wpAny_pure ?_))
    refine wpAny_bind ?_
    rw [← Array.forIn_toList]
    refine quiet_entries g (fun e he => ?_) _ ?_
    · obtain ⟨k, tk, e1, e2⟩ := he
      obtain ⟨e0, ev⟩ := e
      dsimp only at e1
      subst e1
      rfl
    · exact wpAny_pure q'
  · exact wpAny_pure q
variable {a r b : Addr} {o : Obj} {es : Array (Int × Value)} {ep : Nat} {t : SetTable} {Sr : Int → Bool} {nr : Nat}
theorem setWalk_at {Q : Array (Int × Value) → Shared → Prop} (ho : s.heap.get? a = some o) (hd : o.data = .set es ep t) (hf : t.fits es.size = true) (hl : w.params.followText "set-order" = true ∨ t.led = true)
    (hdr : w.params.followText "set-order" = true ∨ (!t.plain && decide (es.size > 1)) = false) (h : ∀ xs : Array (Int × Value), xs.toList.Perm es.toList → Q xs s) : wpAny (model P w) A (setWalk a) Q E s := by
  unfold setWalk
  refine wpAny_bind (wpAny_setState_of ho hd hf ?_)
  dsimp only
  refine wpAny_bind (wpAny_byText ?_)
  by_cases hbt : w.params.followText "set-order" = true
  · refine wp_if_pos hbt ?_
    exact wpAny_bind (wpAny_askSetting (wpAny_pure (h _ (pick_perm _ es))))
  · have hbt' : w.params.followText "set-order" = false := by simpa using hbt
    refine wp_if_neg hbt ?_
    have hdr' : (!t.plain && decide (es.size > 1)) = false := hdr.resolve_left hbt
    have hl' : t.led = true := hl.resolve_left hbt
    try refine wpAny_bind (wpAny_pure ?_)
    refine wp_if_neg (by show ¬ ((!t.plain && decide (es.size > 1)) = true); rw [hdr']; exact Bool.false_ne_true) ?_
    try refine wpAny_bind (wpAny_pure ?_)
    refine wpAny_bind (wpAny_of_eq (a := ()) ?_ ?_)
    · show (if (!t.led && decide (es.size > 1)) = true then unsupported "set:maker-not-led" else pure ()) = pure ()
      rw [hl'] <;> rfl
    · exact wpAny_pure (h _ (List.Perm.refl _))
theorem walkUnseen {S S2 : Int → Bool} {n n2 : Nat} {asked : Addr} {Q : Array (Int × Value) → Shared → Prop} (ho : s.heap.get? a = some o) (hd : o.data = .set es ep t) (hf : t.fits es.size = true) (hg : ∀ e ∈ es.toList, GoodE e) (hl : w.params.followText "set-order" = true ∨ t.led = true)
    (R1 : SetR w s.heap a S n) (R2 : SetR w s.heap asked S2 n2) (R : SetR w s.heap r Sr nr) (har : a ≠ r) (har2 : asked ≠ r)
    (h : ∀ (xs : Array (Int × Value)) (h' : Heap), xs.toList.Perm es.toList → SetR w h' r Sr nr → (∀ b o, b ≠ r → s.heap.get? b = some o → h'.get? b = some o) → Q xs { s with heap := h' }) : wpAny (model P w) A (setWalkUnseen a [asked, r] (some r)) Q E s := by
  unfold setWalkUnseen
  refine wpAny_bind (wpAny_setState_of ho hd hf ?_)
  dsimp only
  refine wpAny_bind (wpAny_byText ?_)
  have same : ∀ xs : Array (Int × Value), xs.toList.Perm es.toList → Q xs s := fun xs hp => h xs s.heap hp R fun b o _ e => e
  by_cases hc : (w.params.followText "set-order" || (t.led && t.plain) || decide (es.size ≤ 1)) = true
  · refine wp_if_pos hc ?_
    refine setWalk_at ho hd hf hl ?_ fun xs hp => same xs hp
    simp only [Bool.or_eq_true, Bool.and_eq_true, decide_eq_true_eq] at hc
    rcases hc with (hc | hc) | hc
    · exact .inl hc
    · right; rw [hc.2]; rfl
    · right
      rw [decide_eq_false (by omega), Bool.and_false]
  · refine wp_if_neg hc ?_
    refine wpAny_bind (setsQuiet_nil [a, asked, r] (fun c hcm => ?_) ?_)
    · have e' : c = a ∨ c = asked ∨ c = r := by simpa using hcm
      rcases e' with rfl | rfl | rfl
      · exact ⟨S, n, R1⟩
      · exact ⟨S2, n2, R2⟩
      · exact ⟨Sr, nr, R⟩
    · refine wp_if_neg (by decide) ?_
      refine wpAny_bind (wpAny_rule ?_)
      obtain ⟨o', es', ep', t', ho', hx', hd', g', nd', hm', hb', hf', hn', hr', hl'⟩ := R
      refine wpAny_bind (wpAny_setState_of ho' hd' hf' ?_)
      dsimp only
      by_cases hc2 : (t'.led && !t.led || t'.plain && !t.plain) = true
      · refine wp_if_pos hc2 ?_
        have htl : t.led = true := hl.resolve_left fun z => hc (by rw [z]; rfl)
        refine wpAny_bind (wpAny_storeSet_of ho' hd' ?_ (fits_of_scanBound hb'))
        refine wpAny_pure (h es _ (List.Perm.refl _) ⟨_, es', _, _, store_at ho' hd', hx', rfl, g', nd', hm', hb', by cases t'; exact hf', hn', by cases t'; exact hr', ?_⟩ fun b o hb e => ((Heap.SameBut.update s.heap r _).2 b hb).trans e)
        rcases hl' with z | z
        · exact .inl z
        · right
          show (t'.led && t.led) = true
          rw [z, htl]; rfl
      · refine wp_if_neg hc2 ?_
        exact wpAny_pure (same es (List.Perm.refl _))
end
end L2
end
section
set_option maxHeartbeats 4000000
namespace L2
open PySem PySem.Spec PyProof.Rows
section
variable {P : Program} {w : World} {A : Around} {E : Value → Shared → Prop}
theorem inter_core {s : Shared} {asked walked r : Addr} {S1 S2 : Int → Bool} {n1 n2 : Nat} {id : String} {Q : PUnit → Shared → Prop} (R1 : SetR w s.heap walked S1 n1) (R2 : SetR w s.heap asked S2 n2) (R : SetR w s.heap r (fun _ => false) 0) (h1 : walked ≠ r) (h2 : asked ≠ r) (hb : n1 + 2 < scanBound)
    (h : ∀ h' n', SetR w h' r (fun k => S1 k && S2 k) n' → (∀ b o, b ≠ r → s.heap.get? b = some o → h'.get? b = some o) → Q PUnit.unit { s with heap := h' }) :
    wpAny (model P w) A (do
      let was ← setEpoch walked
      let es ← setWalkUnseen walked [asked, r] (some r)
      let _ ← forIn es PUnit.unit (andBody id asked walked r was)
      pure ()) Q E s := by
  have R1' := R1
  obtain ⟨o, es, ep, t, ho, hx, hd, g, nd, hm, hbd, hf, hn, hr, hl⟩ := R1
  unfold setEpoch
  refine wpAny_bind (wpAny_bind (wpAny_setState_of ho hd hf (wpAny_pure ?_)))
  refine wpAny_bind (walkUnseen ho hd hf g hl R1' R2 R h1 h2 fun xs h' hp R' k' => ?_)
  rw [← Array.forIn_toList]
  have hlen : xs.toList.length = n1 := by rw [hp.length_eq]; simpa using hn
  refine wpAny_bind (and_loop h2 h1 hd hf xs.toList { s with heap := h' } _ 0 _ (fun e he => g e (hp.mem_iff.mp he)) (R2.at fun o' q => k' _ _ h2 q) R' (by rw [hlen]; omega) (k' _ _ h1 ho) fun h'' n' R'' hn' k'' => wpAny_pure ?_)
  refine h h'' n' (R''.congr fun k => ?_) fun b o' hb' q => k'' b o' hb' (k' b o' hb' q)
  have : (xs.toList.map keyOf).contains k = S1 k := by
    have e1 : S1 k = true ↔ k ∈ xs.toList.map keyOf := (hm k).trans (hp.map keyOf).mem_iff.symm
    by_cases q : S1 k = true
    · rw [q]; simpa using e1.mp q
    · have q' : S1 k = false := by simpa using q
      rw [q']
      have : k ∉ xs.toList.map keyOf := fun z => q (e1.mpr z)
      simpa using this
  rw [this]
  simp
theorem inter_at {s : Shared} {c1 c2 : Addr} {S1 S2 : Int → Bool} {n1 n2 : Nat} {id : String} {Q : Value → Shared → Prop} (R1 : SetR w s.heap c1 S1 n1) (R2 : SetR w s.heap c2 S2 n2) (hne : c1 ≠ c2) (hb : n1 + 2 < scanBound) (hb2 : n2 + 2 < scanBound)
    (h : ∀ h' n', SetR w h' s.heap.objs.size (fun k => S1 k && S2 k) n' → (∀ b o, s.heap.get? b = some o → h'.get? b = some o) → Q (.ref s.heap.objs.size) { s with heap := h' }) : wpAny (model P w) A (Builtin.Frozenset.intersection id c1 (.ref c2)) Q E s := by
  unfold Builtin.Frozenset.intersection
  refine wp_if_neg (by simpa using Ne.symm hne) ?_
  have tyOf : ∀ {s' : Shared} {c : Addr} {S : Int → Bool} {n : Nat}, SetR w s'.heap c S n → s'.TypeIs (.ref c) "set" := fun R => R.setOf (P := P).typeIs
  unfold Builtin.Frozenset.baseOf
  refine wpAny_bind (wpAny_bind (wpAny_isInstance (tyOf R1) sub_set_self (wpAny_pure ?_)))
  simp only [if_true]
  unfold newSet
  refine wpAny_bind (wpAny_bind (wpAny_byText ?_))
  simp only [newObj]
  refine wpAny_bind (wpAny_alloc (wpAny_pure ?_))
  let h1 : Heap := s.heap.push { cls := .type "set", data := .set #[] 0 (SetTable.fresh 0 0 (!w.params.followText "set-order")) }
  have up : ∀ c o, s.heap.get? c = some o → h1.get? c = some o := fun c o q => Heap.get?_push_of_some _ q
  have Rn : SetR w h1 s.heap.objs.size (fun _ => false) 0 := setR_fresh w
  have R1' : SetR w h1 c1 S1 n1 := R1.at fun o q => up _ o q
  have R2' : SetR w h1 c2 S2 n2 := R2.at fun o q => up _ o q
  have l1 : c1 ≠ s.heap.objs.size := Nat.ne_of_lt R1.lt
  have l2 : c2 ≠ s.heap.objs.size := Nat.ne_of_lt R2.lt
  have size : ∀ {c : Addr} {S : Int → Bool} {n : Nat} {Q' : Nat → Shared → Prop}, SetR w h1 c S n → Q' n { s with heap := h1 } → wpAny (model P w) A (Builtin.Frozenset.sizeOf c) Q' E { s with heap := h1 } := fun {c S n Q'} R q => by
    obtain ⟨o, es, ep, t, ho, hx, hd, g, nd, hm, hbd, hf, hn, hr, hl⟩ := R
    unfold Builtin.Frozenset.sizeOf setEntries
    refine wpAny_bind (wpAny_bind (wpAny_setState_of (s := { s with heap := h1 }) ho hd hf (wpAny_pure ?_)))
    subst hn
    exact wpAny_pure q
  have fin : ∀ h' n' (S : Int → Bool), (∀ k, S k = (S1 k && S2 k)) → SetR w h' s.heap.objs.size S n' → (∀ b o, b ≠ s.heap.objs.size → h1.get? b = some o → h'.get? b = some o) → Q (.ref s.heap.objs.size) { s with heap := h' } := fun h' n' S e R k =>
    h h' n' (R.congr fun j => (e j).symm) fun b o q => k b o (Nat.ne_of_lt (Heap.lt_size q)) (up b o q)
  unfold Builtin.Frozenset.addrOf
  refine wpAny_bind (wpAny_pure ?_)
  refine wpAny_bind (wpAny_holding ?_)
  unfold Builtin.Frozenset.isAnySet
  refine wpAny_bind (wpAny_bind (wpAny_isInstance (s := { s with heap := h1 }) (tyOf R2') sub_set_self (wpAny_pure ?_)))
  simp only [if_true]
  refine wpAny_bind (wpAny_pure ?_)
  refine wpAny_bind (size R2' ?_)
  refine wpAny_bind (size R1' ?_)
  by_cases hc : n2 > n1
  · rw [if_pos hc]
    exact inter_core (s := { s with heap := h1 }) (id := id) R1' R2' Rn l1 l2 hb fun h' n' R k => wpAny_pure (fin h' n' _ (fun j => rfl) R k)
  · rw [if_neg hc]
    exact inter_core (s := { s with heap := h1 }) (id := id) R2' R1' Rn l2 l1 hb2 fun h' n' R k => wpAny_pure (fin h' n' _ (fun j => Bool.and_comm _ _) R k)
end
end L2
end
section
set_option maxHeartbeats 4000000
namespace L2
open PySem PySem.Spec PyProof.Rows
theorem entry_set_and' : entryFor table "set.__and__" = some Builtin.«frozenset.__and__» := entryFor_alias (id' := "frozenset.__and__") (by kernel_rfl) rfl (by decide +kernel) (by kernel_rfl)
section
variable {X : Cx}
def SetL (S : Int → Bool) (n : Nat) : Prop := ∃ l : List Int, l.Nodup ∧ (∀ k, S k = true ↔ k ∈ l) ∧ l.length = n
theorem SetR.l {w : World} {h : Heap} {a : Addr} {S : Int → Bool} {n : Nat} (R : SetR w h a S n) : SetL S n := by
  obtain ⟨o, es, ep, t, ho, hx, hd, g, nd, hm, hb, hf, hn, _⟩ := R
  exact ⟨_, nd, hm, by simpa using hn⟩
def tSetT (X : Cx) (ta : TE) : TE := fun σ H Q => ta σ H fun x H1 => ∃ (l : Addr) (ns : List Int), x = .ref l ∧ SqT X.K H1 l (ns.map V.int) ∧ ns.length ≤ 4000 ∧ ∀ p c, H1 p = none → c ≤ ns.length → Q (.ref p) (upd H1 p (SetO X.w p (fun j => decide (j ∈ ns)) c))
theorem pe_setT {a : Expr} {ta : TE} {p2 q : Pos} (hg2 : Gl X "set") (hm2 : X.mg "set" = none) (ha : PE X a ta) (hc : X.calm = true) (na : starEach [a] X.env = (false, eval a X.env) :: starEach [] X.env := by rfl) : PE X (.Call (.Name "set" p2) [a] [] q) (tSetT X ta) := by
  refine ⟨fun pins s σ H Q I h => ?_⟩
  refine Call_ (ld_blt I hg2 hm2 Mi.bb_set ?_)
  refine PyProof.Rows.callWith_type1 (PyProof.Rows.args_cons (thn (ha.run pins s σ H _ I h) fun v s1 ⟨x, H1, I1, r1, l, ns, ex, hq, hl, q1⟩ => PyProof.Rows.args_nil ?_) na) na rfl
  subst ex
  cases r1
  obtain ⟨its, r, pt, hz⟩ := I1.tuple hq
  refine call_set_tupI ns (I1.ok.hd hc) (show s1.heap.IsTuple l its.toArray from pt) (by simpa using ints_of_vals r) (by unfold scanBound; omega) fun h' tk c R1 hcn kp => ?_
  exact ⟨.ref s1.heap.objs.size, _, I1.laid (t' := tk) kp (Nat.le_refl _) (setO_new (P := X.prog) R1), rfl, q1 _ c (I1.hok.fresh (Nat.le_refl _)) hcn⟩
def rAnd (w : World) : R2 := fun x y H Q => ∃ p q S1 S2 n1 n2, x = .ref p ∧ y = .ref q ∧ p ≠ q ∧ H p = some (SetO w p S1 n1) ∧ H q = some (SetO w q S2 n2) ∧ n1 ≤ 4000 ∧ n2 ≤ 4000 ∧ ∀ r n', H r = none → SetL (fun k => S1 k && S2 k) n' → Q (.ref r) (upd H r (SetO w r (fun k => S1 k && S2 k) n'))
theorem op_setAnd : OpR X (binaryOp .BitAnd) (rAnd X.w) := by
  intro pins s σ H x y v u Q I rx ry h
  obtain ⟨p, q, S1, S2, n1, n2, rfl, rfl, hne, hp, hq, h1, h2, k⟩ := h
  cases rx
  cases ry
  have R1 := setO_get I hp
  have R2 := setO_get I hq
  have t1 : s.TypeIs (.ref p) "set" := R1.setOf (P := X.prog).typeIs
  have t2 : s.TypeIs (.ref q) "set" := R2.setOf (P := X.prog).typeIs
  refine wpAny_binaryOp_same (T := "set") t1 t2 F.fills_set_and F.slot_set_and (wpAny_call_entry F.slot_set_and t1 entry_set_and' ?_ (F.args_set_and_2 _ _))
  have any : ∀ {c : Addr} {Q' : Bool → Shared → Prop}, s.TypeIs (.ref c) "set" → Q' true s → wpAny (model X.prog X.w) X.A.in1 (Builtin.Frozenset.isAnySet (.ref c)) Q' X.xe s := fun {c Q'} t k => by
    unfold Builtin.Frozenset.isAnySet
    refine wpAny_bind (wpAny_isInstance t sub_set_self ?_)
    exact wpAny_pure k
  show wpAny _ _ (Builtin.Frozenset.slot1 "__and__" ⟨[.ref p, .ref q], []⟩ >>= _) _ _ _
  have hs1 : Builtin.Frozenset.slot1 "__and__" ⟨[.ref p, .ref q], []⟩ = pure (.ref p, .ref q) := rfl
  rw [hs1]
  refine wpAny_bind (wpAny_pure ?_)
  refine wpAny_bind (wpAny_bind (any t1 ?_))
  refine any t2 ?_
  refine wp_if_neg (by decide) ?_
  unfold Builtin.Frozenset.addrOf
  refine wpAny_bind (wpAny_pure ?_)
  refine wpAny_bind (inter_at R1 R2 hne (by unfold scanBound; omega) (by unfold scanBound; omega) fun h' n' R kp => ?_)
  refine wpAny_pure ⟨_, rfl, (fun z => by cases z), .ref s.heap.objs.size, _, I.laid (t' := s.toks) kp (Nat.le_refl _) (setO_new (P := X.prog) R), rfl, k _ n' (I.hok.fresh (Nat.le_refl _)) R.l⟩
/-- len of a set -/
def rLenO (w : World) : List V → Hp → VK → Prop := fun vs H Q => ∃ p S n, vs = [.ref p] ∧ H p = some (SetO w p S n) ∧ n ≤ 4000 ∧ Q (.int n) H
theorem call_lenO : CallR X (.builtin "len") (rLenO X.w) := by
  intro pins s σ H xs us Q I rx h
  obtain ⟨p, S, n, rfl, hp, hn, q⟩ := h
  cases rx with
  | cons r rr =>
    cases rr
    cases r
    obtain ⟨o, es, ep, t, ho, hex, hd, hge, hnd, hS, hsz, hf, hn', _⟩ := setO_get I hp
    exact call_len_set ho hex hd hf (by rw [hn']; omega) ⟨.int n, H, I.tok _, ⟨_, by rw [hn']⟩, q⟩
end
end L2
end
section
set_option maxHeartbeats 4000000
namespace Mi
open PySem (Str Addr Value Expr Stmt Pos PyData)
open L2 (V Hp HO SqL SqT upd upd_same upd_ne Cx TE TT TA TS TG TI It PE PT PA PS PSs PG PI VK XK WX Ends)
def toIs (M : List O) (d : D) : Option (List Int) := match rd M d with
  | .tup xs => intL xs
  | _ => none
def andN (ns ms : List Int) : Int := (((dd ns).filter fun x => ms.contains x).length : Nat)
def mLenAnd (a b : TM) : TM := fun env M P E => a env M (fun d M1 => ∃ ns, toIs M1 d = some ns ∧ ns.length ≤ 4000 ∧ b env M1 (fun e M2 => ∃ ms, toIs M2 e = some ms ∧ ms.length ≤ 4000 ∧ P (.int (andN ns ms)) M2) E) E
theorem toIs_ok {W : Wd} {M : List O} {H : Hp} {d : D} {v : V} {ns : List Int} (rm : RelM W M H) (r : VR W d v) (h : toIs M d = some ns) : ∃ l, v = .ref l ∧ SqT W.K H l (ns.map V.int) := by
  unfold toIs at h
  split at h
  · rename_i xs hr
    obtain ⟨l, vs, rfl, s, t, _⟩ := rd_tup rm r hr
    rw [t.intL h] at s
    exact ⟨l, rfl, s⟩
  · cases h
section
variable {A : Anc} {X : Cx} (F : Fit A X) {a b : Expr} {ma mb : TM} {p p2 p3 q q2 q3 pos : Pos}
include F
theorem me_lenAnd (hc : X.calm = true) (hu : X.A.units + 200 < PySem.cLine) (hb : Blt X "len" (.builtin "len")) (hb2 : Blt X "set" (.type "set")) (ha : ME A X a ma) (hbb : ME A X b mb)
    (na : PySem.starEach [a] X.env = (false, PySem.eval a X.env) :: PySem.starEach [] X.env := by rfl) (nb : PySem.starEach [b] X.env = (false, PySem.eval b X.env) :: PySem.starEach [] X.env := by rfl) :
    ME A X (.Call (.Name "len" p) [.BinOp (.Call (.Name "set" p2) [a] [] q) .BitAnd (.Call (.Name "set" p3) [b] [] q2) q3] [] pos) (mLenAnd ma mb) := by
  refine pe_imp (L2.pe_callB (t := L2.tCons (L2.tOp (L2.rAnd X.w) (L2.tSetT X (lf A ma)) (L2.tSetT X (lf A mb))) L2.tNil) L2.call_lenO hb.1 hb.2.1 hb.2.2 (L2.pa_cons (L2.pe_op L2.op_setAnd (L2.pe_setT hb2.1 hb2.2.1 ha hc na) (L2.pe_setT hb2.1 hb2.2.1 hbb hc nb)) L2.pa_nil)) ?_
  intro σ H Q ⟨W, env, M, P, s, h, k⟩
  refine ⟨W, env, M, _, s, h, fun W1 d M1 v1 H1 s1 rm1 r1 ⟨ns, hn, hnl, h1⟩ => ?_⟩
  have S1 := s.next s1 rm1
  obtain ⟨l1, rfl, q1⟩ := toIs_ok rm1 r1 hn
  rw [S1.K F] at q1
  refine ⟨l1, ns, rfl, q1, hnl, fun pa c1 hpa hc1 => ?_⟩
  obtain ⟨a1, a2, a3, a4⟩ := rm1.loose (o := L2.SetO X.w pa (fun j => decide (j ∈ ns)) c1) hpa
  have S1' := s.next (s1.trans a2) a1
  refine ⟨W1, env, M1, _, S1', h1, fun W2 e M2 v2 H2 s2 rm2 r2 ⟨ms, hm, hml, hP⟩ => ?_⟩
  have S2 := S1'.next s2 rm2
  obtain ⟨l2, rfl, q2⟩ := toIs_ok rm2 r2 hm
  rw [S2.K F] at q2
  obtain ⟨b1, b2, b3⟩ := s2.loose (p := pa) upd_same a3 a4
  refine ⟨l2, ms, rfl, q2, hml, fun pb c2 hpb hc2 => ?_⟩
  obtain ⟨c1', c2', c3', c4'⟩ := rm2.loose (o := L2.SetO X.w pb (fun j => decide (j ∈ ms)) c2) hpb
  have hne : pa ≠ pb := fun e => by subst e; rw [b1] at hpb; cases hpb
  refine ⟨pa, pb, _, _, c1, c2, rfl, rfl, hne, by rw [upd_ne hne]; exact b1, upd_same, by omega, by omega, fun r n' hr hS => ?_⟩
  obtain ⟨d1, d2, d3, d4⟩ := c1'.loose (o := L2.SetO X.w r (fun k => decide (k ∈ ns) && decide (k ∈ ms)) n') hr
  obtain ⟨l, hnd, hmem, hlen⟩ := hS
  have hcnt : n' = ((dd ns).filter fun x => ms.contains x).length := by
    rw [← hlen]
    refine nodup_len_eq hnd ((dd_nodup ns).filter _) fun x => ?_
    rw [← hmem, List.mem_filter, dd_mem]
    simp
  have hle : n' ≤ 4000 := by
    rw [hcnt]
    exact Nat.le_trans (List.length_filter_le _ _) (Nat.le_trans (dd_len_le ns) hnl)
  refine ⟨r, _, n', rfl, upd_same, hle, ?_⟩
  have e : (n' : Int) = andN ns ms := by unfold andN; rw [hcnt]
  rw [e]
  exact k W2 _ M2 _ _ (((s1.trans a2).trans s2).trans (c2'.trans d2)) d1 (VR.int _) hP
end
end Mi
end
section
set_option maxHeartbeats 4000000
namespace Mi
open PySem PySem.Spec PyProof.Rows
open L2 (V Hp HO SqL SqT CXT FnOk Room Binds FunD FnScope)
open He (ga ma fAd Fa DefD)
section
variable {P : Program} {w : World} {K : W.Frag} {mg : Str → Option Value} {base h : Heap} (X : K.In h) (Ns : h.Ns mainGlobals mg) {x c : Str} {d : DefD} {Nm ps : List Str} {k : Nat} {b : TSm}
include X Ns
theorem reg (F : ∃ fd, FunD K d.name d.qual d.params d.body d.scope (d.dvs K) (d.kws K) (fAd K d.at_) fd) (hat : d.at_ = (x, none)) (hd : d.dfl = []) (g : (Fa.glo x).ok K = true) (S : FnScope Nm ps d.scope)
    (hb : ∀ A X, Bd k Nm d.scope P w K mg base A X → MSs A X d.body b)
    (hbind : ∀ (kV doc pm : Value) (an : Option Addr) (cdv ct : Value) (us : List Value), us.length = ps.length → bindArgs (W.fnOf d.name d.qual d.params d.body d.scope .none kV doc pm an cdv ct) ⟨us, []⟩ = pure (ps.zip us)) :
    FnR ⟨P, w, K, mg, base⟩ (k + 1) x (fSp b Nm.length ps.length) [] := by
  obtain ⟨fd, F⟩ := F
  have e : d.dvs K = [] := by unfold DefD.dvs; rw [hd]; rfl
  rw [e] at F
  have ea : fAd K d.at_ = ga K x := by rw [hat]; rfl
  rw [ea] at F
  exact ⟨_, fd, ps, [], [], fn_ok F S b hb, He.glo_ok X Ns g, F.kp, F.bindsN hbind, .nil, fun _ _ _ => .nil⟩
theorem regC (F : ∃ fd, FunD K d.name d.qual d.params d.body d.scope (d.dvs K) (d.kws K) (fAd K d.at_) fd) (hat : d.at_ = (x, none)) (hd : d.dfl = []) (g : (Fa.glo x).ok K = true) (S : FnScope Nm ps d.scope)
    (hb : ∀ A X, Bd k Nm d.scope P w K mg base A X → MSs A X d.body b)
    (hbind : ∀ (kV doc pm : Value) (an : Option Addr) (cdv ct : Value) (us : List Value), us.length = ps.length → bindArgs (W.fnOf d.name d.qual d.params d.body d.scope .none kV doc pm an cdv ct) ⟨us, []⟩ = pure (ps.zip us)) :
    FnR ⟨P, w, K, mg, base⟩ (k + 1) x (fSpC b Nm.length ps.length) [] := by
  obtain ⟨fd, F⟩ := F
  have e : d.dvs K = [] := by unfold DefD.dvs; rw [hd]; rfl
  rw [e] at F
  have ea : fAd K d.at_ = ga K x := by rw [hat]; rfl
  rw [ea] at F
  exact ⟨_, fd, ps, [], [], fn_okC F S b hb, He.glo_ok X Ns g, F.kp, F.bindsN hbind, .nil, fun _ _ _ => .nil⟩
/-- a class's __init__ -/
theorem regI (F : ∃ fd, FunD K d.name d.qual d.params d.body d.scope (d.dvs K) (d.kws K) (fAd K d.at_) fd) (hat : d.at_ = (c, some ("__init__" : Str))) (hd : d.dfl = []) (g : (Fa.glo c).ok K = true) (m : (Fa.mkr c).ok K = true) (S : FnScope Nm ps d.scope)
    (hb : ∀ A X, Bd k Nm d.scope P w K mg base A X → MSs A X d.body b)
    (hbind : ∀ (kV doc pm : Value) (an : Option Addr) (cdv ct : Value) (us : List Value), us.length = ps.length → bindArgs (W.fnOf d.name d.qual d.params d.body d.scope .none kV doc pm an cdv ct) ⟨us, []⟩ = pure (ps.zip us)) :
    MkR ⟨P, w, K, mg, base⟩ (k + 1) c (fSp b Nm.length ps.length) [] := by
  obtain ⟨fd, F⟩ := F
  have e : d.dvs K = [] := by unfold DefD.dvs; rw [hd]; rfl
  rw [e] at F
  have ea : fAd K d.at_ = ma K (ga K c) "__init__" := by rw [hat]; rfl
  rw [ea] at F
  exact ⟨_, _, fd, ps, [], [], fn_ok F S b hb, He.glo_ok X Ns g, He.mkr_ok m, F.bindsN hbind, .nil, fun _ _ _ => .nil⟩
/-- the law's def -/
theorem regL (F : ∃ fd, FunD K d.name d.qual d.params d.body d.scope (d.dvs K) (d.kws K) (fAd K d.at_) fd) (hat : d.at_ = (x, none)) (hd : d.dfl = []) (g : (Fa.glo x).ok K = true) {s : Str} (S : FnScope Nm [s] d.scope)
    (hbind : ∀ (kV doc pm : Value) (an : Option Addr) (cdv ct : Value) (us : List Value), us.length = [s].length → bindArgs (W.fnOf d.name d.qual d.params d.body d.scope .none kV doc pm an cdv ct) ⟨us, []⟩ = pure ([s].zip us)) {fa : Addr} (hf : mg x = some (.ref fa))
    (hb : ∀ base : Heap, ∀ A X, Bd k Nm d.scope P w K mg base A X → MSs A X d.body b) :
    ∃ fd : FuncData, (∀ (t : Shared) (u : Value), BindsTo t fd ⟨[u], []⟩ [(s, u)]) ∧ ∀ base : Heap, FnOk P w K mg base (L2.CX P w) (k + 1) fa fd [s] (lsp K mg (fSp b Nm.length 1)) := by
  obtain ⟨fd, F⟩ := F
  have e : d.dvs K = [] := by unfold DefD.dvs; rw [hd]; rfl
  rw [e] at F
  have ea : fAd K d.at_ = ga K x := by rw [hat]; rfl
  rw [ea] at F
  have ef := hf.symm.trans (He.glo_ok X Ns g)
  cases ef
  have bA := F.bindsA hbind
  exact ⟨fd, fun t u => bA t [u] rfl, fun base => fn_ok F S b (hb base)⟩
end
end Mi
end
section
set_option maxHeartbeats 4000000
namespace Mi
open PySem (Str)
section
variable {α : Type} (le : α → α → Bool)
def mrgF : Nat → List α → List α → List α
  | 0, _, _ => []
  | _ + 1, [], ys => ys
  | _ + 1, x :: xs, [] => x :: xs
  | n + 1, x :: xs, y :: ys => if le x y = true then x :: mrgF n xs (y :: ys) else y :: mrgF n (x :: xs) ys
def msF : Nat → List α → List α
  | 0, xs => xs
  | _ + 1, [] => []
  | _ + 1, [a] => [a]
  | n + 1, a :: b :: xs => mrgF le (xs.length + 3) (msF n ((a :: b :: xs).take ((xs.length + 3) / 2))) (msF n ((a :: b :: xs).drop ((xs.length + 3) / 2)))
theorem mrgF_eq : ∀ (n : Nat) (xs ys : List α), xs.length + ys.length < n → mrgF le n xs ys = List.merge xs ys le
  | 0, _, _, h => by omega
  | n + 1, [], ys, h => by simp [mrgF]
  | n + 1, x :: xs, [], h => by simp [mrgF]
  | n + 1, x :: xs, y :: ys, h => by
    unfold mrgF List.merge
    by_cases c : le x y = true
    · rw [if_pos c, if_pos c, mrgF_eq n xs (y :: ys) (by simp at h ⊢; omega)]
    · rw [if_neg c, if_neg c, mrgF_eq n (x :: xs) ys (by simp at h ⊢; omega)]
theorem msF_eq : ∀ (n : Nat) (xs : List α), xs.length ≤ n → msF le n xs = xs.mergeSort le
  | 0, xs, h => by
    have : xs = [] := List.length_eq_zero_iff.mp (by omega)
    subst this; simp [msF]
  | n + 1, [], h => by simp [msF]
  | n + 1, [a], h => by simp [msF]
  | n + 1, a :: b :: xs, h => by
    have h' : xs.length + 2 ≤ n + 1 := by simpa using h
    rw [List.mergeSort]
    unfold msF
    have e1 : ((a :: b :: xs).take ((xs.length + 3) / 2)).length ≤ n := by rw [List.length_take]; simp; omega
    have e2 : ((a :: b :: xs).drop ((xs.length + 3) / 2)).length ≤ n := by rw [List.length_drop]; simp; omega
    rw [msF_eq n _ e1, msF_eq n _ e2, mrgF_eq]
    · simp [List.MergeSort.Internal.splitInTwo_fst, List.MergeSort.Internal.splitInTwo_snd]
    · rw [List.length_mergeSort, List.length_mergeSort, List.length_take, List.length_drop]; simp; omega
end
inductive Res (α : Type) where
  | ok (a : α) (M : List O)
  | ex (d : D) (M : List O)
  | no
def Res.bind {α β : Type} (r : Res α) (f : α → List O → Res β) : Res β := match r with
  | .ok a M => f a M
  | .ex d M => .ex d M
  | .no => .no
def Res.w {α : Type} (r : Res α) (P : α → List O → Prop) (E : XQ) : Prop := match r with
  | .ok a M => P a M
  | .ex d M => E d M
  | .no => False
/-- an exception is not looked for here -/
def Res.nx {α : Type} (r : Res α) : Res α := match r with
  | .ok a M => .ok a M
  | _ => .no
def ofO {α : Type} (o : Option α) (M : List O) : Res α := match o with
  | some a => .ok a M
  | none => .no
theorem w_bind {α β : Type} {r : Res α} {f : α → List O → Res β} {P : β → List O → Prop} {E : XQ} : (r.bind f).w P E = r.w (fun a M => (f a M).w P E) E := by cases r <;> rfl
theorem w_mono {α : Type} {r : Res α} {P Q : α → List O → Prop} {E : XQ} (h : r.w P E) (k : ∀ a M, P a M → Q a M) : r.w Q E := by
  cases r with
  | ok a M => exact k a M h
  | ex d M => exact h
  | no => exact h
theorem w_ofO {α : Type} {o : Option α} {M : List O} {P : α → List O → Prop} {E : XQ} (h : (ofO o M).w P E) : ∃ a, o = some a ∧ P a M := by
  cases o with
  | some a => exact ⟨a, rfl, h⟩
  | none => exact h.elim
theorem w_nx {α : Type} {r : Res α} {P : α → List O → Prop} {E : XQ} (h : r.nx.w P E) : r.w P noX := by
  cases r with
  | ok a M => exact h
  | ex d M => exact h.elim
  | no => exact h.elim
inductive Out where
  | nx (env : Env)
  | rt (d : D)
abbrev XM := Env → List O → Res D
abbrev XB := Env → List O → Res Bool
abbrev XL := Env → List O → Res (List D)
abbrev XI := Env → List O → Res (Int × Int)
abbrev XO := Env → List O → Res (Option Int)
abbrev XG := D → Env → List O → Option (Env × List O)
abbrev XS := Env → List O → Res Out
abbrev XF := List D → List O → Res D
def OkM (m : TM) (x : XM) : Prop := ∀ env M P E, (x env M).w P E → m env M P E
def OkB (m : TB) (x : XB) : Prop := ∀ env M P E, (x env M).w P E → m env M P E
def OkL (m : TL) (x : XL) : Prop := ∀ env M P E, (x env M).w P E → m env M P E
def OkI (m : lR2) (x : XI) : Prop := ∀ env M P E, (x env M).w (fun a M' => P a.1 a.2 M') E → m env M P E
def OkO (m : TO') (x : XO) : Prop := ∀ env M P E, (x env M).w P E → m env M P E
def OkG (g : TGm) (x : XG) : Prop := ∀ d env M P, (∃ r, x d env M = some r ∧ P r.1 r.2) → g d env M P
def outK (K : Kt) : Out → List O → Prop
  | .nx env, M => K.nx env M
  | .rt d, M => K.rt d M
def OkS (s : TSm) (x : XS) : Prop := ∀ env M K, (x env M).w (outK K) K.ex → s env M K
def OkF (sp : FSp) (x : XF) : Prop := ∀ ds M P E, (x ds M).w P E → sp ds M P E

def xVar (i : Nat) : XM := fun env M => match env[i]? with
  | some (some d) => .ok d M
  | _ => .no
def xCon (d : D) : XM := fun _ M => .ok d M
def x1 (f : D → List O → Option D) (a : XM) : XM := fun env M => (a env M).bind fun d M1 => ofO (f d M1) M1
def x2 (f : D → D → List O → Option D) (a b : XM) : XM := fun env M => (a env M).bind fun d M1 => (b env M1).bind fun e M2 => ofO (f d e M2) M2
def xl1 (f : D → List O → Option (List D)) (a : XM) : XL := fun env M => (a env M).bind fun d M1 => ofO (f d M1) M1
def xl2 (f : D → D → List O → Option (List D)) (a b : XM) : XL := fun env M => (a env M).bind fun d M1 => (b env M1).bind fun e M2 => ofO (f d e M2) M2
def toB : D → Option Bool
  | .bl b => some b
  | _ => none
def toI : D → Option Int
  | .int b => some b
  | _ => none
theorem toB_ok {d : D} {b : Bool} (h : toB d = some b) : d = .bl b := by
  cases d <;> simp [toB] at h; rw [h]
theorem toI_ok {d : D} {b : Int} (h : toI d = some b) : d = .int b := by
  cases d <;> simp [toI] at h; rw [h]
def xT (m : XM) : XB := fun env M => (m env M).bind fun d M1 => ofO (toB d) M1
def xChain (f g : D → D → List O → Option D) (a b c : XM) : XM := fun env M => (a env M).bind fun x M1 => (b env M1).bind fun y M2 => (ofO ((f x y M2).bind toB) M2).bind fun t M3 =>
  if t = true then (c env M3).bind fun z M4 => ofO (g y z M4) M4 else .ok (.bl false) M3
def xbAnd (a b : XB) : XB := fun env M => (a env M).bind fun c M1 => if c = true then b env M1 else .ok false M1
def xbOr (a b : XB) : XB := fun env M => (a env M).bind fun c M1 => if c = true then .ok true M1 else b env M1
def xbNot (a : XB) : XB := fun env M => (a env M).bind fun c M1 => .ok (!c) M1
def xAnd (a b : XM) : XM := fun env M => (a env M).bind fun d M1 => (ofO (toB d) M1).bind fun c M1 => if c = true then b env M1 else .ok (.bl false) M1
def xOr (a b : XM) : XM := fun env M => (a env M).bind fun d M1 => (ofO (toB d) M1).bind fun c M1 => if c = true then .ok (.bl true) M1 else b env M1
def xNot (a : XM) : XM := fun env M => (a env M).bind fun d M1 => (ofO (toB d) M1).bind fun c M1 => .ok (.bl (!c)) M1
def xIf (t : XB) (a b : XM) : XM := fun env M => (t env M).bind fun c M1 => if c = true then a env M1 else b env M1
def xNil : XL := fun _ M => .ok [] M
def xCons (a : XM) (r : XL) : XL := fun env M => (a env M).bind fun d M1 => (r env M1).bind fun ds M2 => .ok (d :: ds) M2
def xTup (a : XL) : XM := fun env M => (a env M).bind fun ds M1 => if ds.length ≤ lim then .ok (.tup ds) M1 else .no
def xDisp (a : XL) : XL := fun env M => (a env M).bind fun ds M1 => if ds.length ≤ lim then .ok ds M1 else .no
def xF (c : Bool) (m : XL) : XM := fun env M => (m env M).bind fun xs M1 => if c = true then .ok (.ref M1.length) (M1 ++ [.lst xs]) else .ok (.lst xs) M1
def xoNo : XO := fun _ M => .ok none M
def xoAt (m : XM) : XO := fun env M => (m env M).bind fun d M1 => (ofO (toI d) M1).bind fun i M1 => .ok (some i) M1
def xCut (a : XM) (lo hi : XO) : XM := fun env M => (a env M).bind fun d M1 => (lo env M1).bind fun i M2 => (hi env M2).bind fun j M3 => ofO (fCut d i j) M3
def xlCut (a : XM) (lo hi : XO) : XL := fun env M => (a env M).bind fun d M1 => (lo env M1).bind fun i M2 => (hi env M2).bind fun j M3 => ofO ((lsD (rd M3 d)).map fun xs => cutD xs i j) M3
def xi1 (a : XM) : XI := fun env M => (a env M).bind fun d M1 => (ofO (toI d) M1).bind fun j M1 => .ok (0, j) M1
def xi2 (a b : XM) : XI := fun env M => (a env M).bind fun d M1 => (b env M1).bind fun e M2 => (ofO (toI d) M2).bind fun i M2 => (ofO (toI e) M2).bind fun j M2 => .ok (i, j) M2
def xRange (m : XI) : XM := fun env M => (m env M).bind fun p M1 => if rgOk p.1 p.2 = true then .ok (.tup (lRg p.1 p.2)) M1 else .no
def xlRange (m : XI) : XL := fun env M => (m env M).bind fun p M1 => if rgOk p.1 p.2 = true then .ok (lRg p.1 p.2) M1 else .no
def fSrtF : D → List O → Option (List D) := fun d M => match rd M d with
  | .lst xs => if srtOk xs = true then some (msF leD xs.length xs) else none
  | _ => none
theorem fSrtF_eq : fSrtF = fSrt := by
  funext d M
  unfold fSrtF fSrt srtD
  split <;> simp_all [msF_eq leD _ _ (Nat.le_refl _)]
def xiOf (m : XM) : XL := fun env M => (m env M).bind fun d M1 => ofO (itD d) M1
def xiRg1 (a : XM) : XL := fun env M => (a env M).bind fun d M1 => (ofO (toI d) M1).bind fun j M1 => if -(2 ^ 62) ≤ j ∧ j < 2 ^ 62 then .ok (rgD 0 j.toNat) M1 else .no
def xiRg2 (a b : XM) : XL := fun env M => (a env M).bind fun d M1 => (b env M1).bind fun e M2 => (ofO (toI d) M2).bind fun i M2 => (ofO (toI e) M2).bind fun j M2 =>
  if -(2 ^ 62) ≤ i ∧ i < 2 ^ 62 ∧ -(2 ^ 62) ≤ j ∧ j < 2 ^ 62 then .ok (rgD i (j - i).toNat) M2 else .no
def toLst : D → Option (List D)
  | .lst xs => some xs
  | _ => none
def toTup : D → Option (List D)
  | .tup xs => some xs
  | _ => none
theorem toLst_ok {d : D} {b : List D} (h : toLst d = some b) : d = .lst b := by
  cases d <;> simp [toLst] at h; rw [h]
theorem toTup_ok {d : D} {b : List D} (h : toTup d = some b) : d = .tup b := by
  cases d <;> simp [toTup] at h; rw [h]
def xiEnL (m : XM) : XL := fun env M => (m env M).bind fun d M1 => ofO ((toLst d).map fun xs => enD 0 xs) M1
def xiEnTu (m : XM) : XL := fun env M => (m env M).bind fun d M1 => ofO ((toTup d).map fun xs => enD 0 xs) M1
def zipOf : D → D → Option (List D × List D)
  | .lst xs, .lst ys => some (xs, ys)
  | .tup xs, .tup ys => some (xs, ys)
  | _, _ => none
theorem zipOf_ok {d e : D} {p : List D × List D} (h : zipOf d e = some p) : (d = .lst p.1 ∧ e = .lst p.2) ∨ (d = .tup p.1 ∧ e = .tup p.2) := by
  cases d <;> cases e <;> simp [zipOf] at h
  · subst h; exact .inr ⟨rfl, rfl⟩
  · subst h; exact .inl ⟨rfl, rfl⟩
def xiZip (a b : XM) : XL := fun env M => (a env M).bind fun d M1 => (b env M1).bind fun e M2 => ofO ((zipOf d e).map fun p => zipD p.1 p.2) M2
def xlZip (a b : XM) : XL := fun env M => (a env M).bind fun d M1 => (b env M1).bind fun e M2 => (ofO (toLst d) M2).bind fun xs M2 => (ofO (toLst e) M2).bind fun ys M2 => if xs.length = ys.length ∧ 0 < xs.length ∧ xs.length ≤ 4000 then .ok (zipD xs ys) M2 else .no
def xLenAnd (a b : XM) : XM := fun env M => (a env M).bind fun d M1 => (ofO (toIs M1 d) M1).bind fun ns M1 => if ns.length ≤ 4000 then (b env M1).bind fun e M2 => (ofO (toIs M2 e) M2).bind fun ms M2 => if ms.length ≤ 4000 then .ok (.int (andN ns ms)) M2 else .no else .no
def xgN (i : Nat) : XG := fun d env M => some (env.set i (some d), M)
def xgsW : List XG → List D → Env → List O → Option (Env × List O)
  | [], _, env, M => some (env, M)
  | g :: gs, d :: ds, env, M => (g d env M).bind fun r => xgsW gs ds r.1 r.2
  | _ :: _, [], _, _ => none
def xgT (gs : List XG) : XG := fun d env M => (itP d).bind fun xs => if xs.length = gs.length then xgsW gs xs env M else none
def okO {α : Type} (r : Res α) : Option (α × List O) := match r with
  | .ok a M => some (a, M)
  | _ => none
def toR : D → Option Nat
  | .ref c => some c
  | _ => none
theorem toR_ok {d : D} {b : Nat} (h : toR d = some b) : d = .ref b := by
  cases d <;> simp [toR] at h; rw [h]
def lstAt (M : List O) (c : Nat) : Option (List D) := match M[c]? with
  | some (.lst xs) => some xs
  | _ => none
theorem lstAt_ok {M : List O} {c : Nat} {xs : List D} (h : lstAt M c = some xs) : M[c]? = some (.lst xs) := by
  unfold lstAt at h
  split at h
  · rename_i e; cases h; exact e
  · cases h
def xgSub (o i : XM) : XG := fun d env M => (okO (o env M)).bind fun s => (okO (i env s.2)).bind fun t => (toR s.1).bind fun c => (toI t.1).bind fun n => (lstAt t.2 c).bind fun xs => (L2.ixN xs.length n).bind fun j => some (env, t.2.set c (.lst (xs.set j d)))
def xCompW (step : D → List O → Res (Option D)) : List D → List D → List O → Res (List D)
  | [], acc, M => .ok acc M
  | x :: r, acc, M => (step x M).bind fun y M' => match y with
    | some d => xCompW step r (acc ++ [d]) M'
    | none => xCompW step r acc M'
def xbYes : XB := fun _ M => .ok true M
def xCompS (env : Env) (g : XG) (tt : XB) (te : XM) : D → List O → Res (Option D) := fun x M => (ofO (g x env M) M).bind fun p _ => ((tt p.1 p.2).nx).bind fun b M3 => if b = true then ((te p.1 M3).nx).bind fun y M4 => .ok (some y) M4 else .ok none M3
def xComp (own : List Nat) (mi : XL) (g : XG) (tt : XB) (te : XM) : XL := fun env M => (mi env M).bind fun ds M1 => if ds.length ≤ lim then xCompW (xCompS (wipeE env own) g tt te) ds [] M1 else .no
def xMut (f : List D → List D → List O → Option (D × List D)) (o : XM) (a : XL) : XM := fun env M => (o env M).bind fun s M1 => (ofO ((toR s).bind fun c => (lstAt M1 c).map fun _ => c) M1).bind fun c M1 =>
  (a env M1).bind fun ds M2 => (ofO ((lstAt M2 c).bind fun xs => f xs ds M2) M2).bind fun r M2 => .ok r.1 (M2.set c (.lst r.2))
def closeR (n : Nat) (d : D) (M : List O) : Res D := match clD n M d with
  | some d' => if (M.take n).all (RBO n) = true then .ok d' (M.take n) else .no
  | none => .no
def xCall (f : XF) (dds : List D) (a : XL) : XM := fun env M => (a env M).bind fun ds M1 => f (ds ++ dds) M1
def xMake (c : Str) (f : XF) (dds : List D) (a : XL) : XM := fun env M => (a env M).bind fun ds M1 => match f (.ref M1.length :: (ds ++ dds)) (M1 ++ [.ins c [] []]) with
  | .ok .non M2 => closeR M1.length (.ref M1.length) M2
  | .ex d M2 => (match closeR M1.length d M2 with
    | .ok d' M3 => .ex d' M3
    | _ => .no)
  | _ => .no
def xMeth (c m : Str) (f : XF) (dds : List D) (o : XM) (a : XL) : XM := fun env M => (o env M).bind fun d M1 => if insB c m (rd M1 d) = true then (a env M1).bind fun ds M2 => f (d :: (ds ++ dds)) M2 else .no
def glAt (env : Env) (i : Nat) : Option Str := match env[i]? with
  | some (some (.gl x)) => some x
  | _ => none
def xCallV (T : List (Str × XF)) (i : Nat) (a : XL) : XM := fun env M => match (glAt env i).bind fun x => T.lookup x with
  | some f => (a env M).bind fun ds M1 => f ds M1
  | none => .no
def xsNil : XS := fun env M => .ok (.nx env) M
def xsSeq (a b : XS) : XS := fun env M => (a env M).bind fun o M' => match o with
  | .nx env' => b env' M'
  | .rt d => .ok (.rt d) M'
def xsExpr (a : XM) : XS := fun env M => (a env M).bind fun _ M' => .ok (.nx env) M'
def xsRet (a : XM) : XS := fun env M => (a env M).bind fun d M' => .ok (.rt d) M'
def xsRetN : XS := fun _ M => .ok (.rt .non) M
def xsIf (c : XB) (a b : XS) : XS := fun env M => (c env M).bind fun t M' => if t = true then a env M' else b env M'
def xsAsg (a : XM) (g : XG) : XS := fun env M => (a env M).bind fun d M' => match g d env M' with
  | some r => .ok (.nx r.1) r.2
  | none => .no
def xsPar (i j : Nat) (a : XL) : XS := fun env M => (a env M).bind fun ds M1 => match ds with
  | [d, e] => .ok (.nx ((env.set i (some d)).set j (some e))) M1
  | _ => .no
def xsPar3 (i j l : Nat) (a : XL) : XS := fun env M => (a env M).bind fun ds M1 => match ds with
  | [d, e, f] => .ok (.nx (((env.set i (some d)).set j (some e)).set l (some f))) M1
  | _ => .no
def xForW (g : XG) (tb : XS) : List D → Env → List O → Res Out
  | [], env, M => .ok (.nx env) M
  | x :: r, env, M => match g x env M with
    | some p => (tb p.1 p.2).bind fun o M' => match o with
      | .nx env' => xForW g tb r env' M'
      | .rt d => .ok (.rt d) M'
    | none => .no
def xsFor (mi : XL) (g : XG) (tb : XS) : XS := fun env M => (mi env M).bind fun ds M1 => xForW g tb ds env M1
def xWh (c : XB) (tb : XS) : Nat → Env → List O → Res Out
  | 0, _, _ => .no
  | n + 1, env, M => (c env M).bind fun t M1 => if t = true then (tb env M1).bind fun o M2 => match o with
      | .nx env' => xWh c tb n env' M2
      | .rt d => .ok (.rt d) M2
    else .ok (.nx env) M1
/-- turns of a while at most -/
def fuel : Nat := 100000
def xsWhile (c : XB) (tb : XS) : XS := xWh c tb fuel
def insAt (M : List O) (a : Nat) : Option (Str × List Str × List D) := match M[a]? with
  | some (.ins c fs xs) => some (c, fs, xs)
  | _ => none
theorem insAt_ok {M : List O} {a : Nat} {p : Str × List Str × List D} (h : insAt M a = some p) : M[a]? = some (.ins p.1 p.2.1 p.2.2) := by
  unfold insAt at h
  split at h
  · rename_i e; cases h; exact e
  · cases h
def xsFld (f : Str) (o v : XM) : XS := fun env M => (v env M).bind fun d M1 => (o env M1).bind fun s M2 => match (toR s).bind fun a => (insAt M2 a).map fun p => (a, p) with
  | some (a, c, fs, xs) => if ctB c f = true ∧ fs.length < 1000 then .ok (.nx env) (M2.set a (.ins c (putFs f d fs xs).1 (putFs f d fs xs).2)) else .no
  | none => .no
def xsRaise (c f : Str) (a : XM) : XS := fun env M => (a env M).bind fun d M1 => .ex (.ins c [f] [d]) M1
structure XCl where
  c : Str
  i : Option Nat
  h : D → XS
def xHd (n : Nat) : List XCl → D → List O → Res Out
  | [], d, M => .ex d M
  | l :: r, d, M => match d with
    | .ins c fs xs => if exB c = true then if c = l.c then ((l.h (.ins c fs xs) (List.replicate n none) M).nx).bind fun o M' => (match o, l.i with
        | .nx env, some i => .ok (.nx (env.set i none)) M'
        | o, _ => .ok o M') else xHd n r (.ins c fs xs) M else .no
    | _ => .no
def xsTry (n : Nat) (tb : XS) (hs : List XCl) : XS := fun env M => match tb env M with
  | .ex d M' => xHd n hs d M'
  | r => r
def xsNo : XS := fun _ _ => .no
def dicAt (M : List O) (c : Nat) : Option (Ks × List D) := match M[c]? with
  | some (.dic ks xs) => some (ks, xs)
  | _ => none
def xsDPut (o i v : XM) : XS := fun env M => (v env M).bind fun d M1 => (o env M1).bind fun s M2 => (i env M2).bind fun key M3 => match (toR s).bind fun c => (dicAt M3 c).map fun p => (c, p) with
  | some (c, .k l, xs) => if xs.length < lim then (match toK key with
    | some k => .ok (.nx env) (M3.set c (.dic (.k (putD l xs k d).1) (putD l xs k d).2))
    | none => .no) else .no
  | some (c, .t l, xs) => if xs.length < lim then (match toKT key with
    | some k => .ok (.nx env) (M3.set c (.dic (.t (putD l xs k d).1) (putD l xs k d).2))
    | none => .no) else .no
  | none => .no
def xFn (b : XS) (n np : Nat) : XF := fun ds M => if ds.length = np then (match b (startE n ds) M with
  | .ok (.rt d) M' => closeR M.length d M'
  | .ok (.nx _) M' => closeR M.length .non M'
  | .ex d M' => (match closeR M.length d M' with
    | .ok d' M2 => .ex d' M2
    | _ => .no)
  | .no => .no) else .no
/-- a def that hands out its new list -/
def xFnC (b : XS) (n np : Nat) : XF := fun ds M => if ds.length = np then (match b (startE n ds) M with
  | .ok (.rt (.ref a)) M' => (match lstAt M' a with
    | some xs => if M.length ≤ a ∧ RBs M.length xs = true ∧ (M'.take M.length).all (RBO M.length) = true then .ok (.ref M.length) (M'.take M.length ++ [.lst xs]) else .no
    | none => .no)
  | .ex d M' => (match closeR M.length d M' with
    | .ok d' M2 => .ex d' M2
    | _ => .no)
  | _ => .no) else .no

section
variable {a b c : TM} {xa xb xc : XM} {r : TL} {xr : XL} {f g : D → D → List O → Option D} {f1 : D → List O → Option D} {t u : TB} {xt xu : XB}
theorem ok_var {i : Nat} : OkM (mVar i) (xVar i) := by
  intro env M P E h
  unfold xVar at h
  split at h
  · rename_i d e; exact ⟨d, e, h⟩
  · exact h.elim
theorem ok_con {d : D} : OkM (mCon d) (xCon d) := fun env M P E h => h
theorem ok_1 (ha : OkM a xa) : OkM (m1 f1 a) (x1 f1 xa) := by
  intro env M P E h
  unfold x1 at h
  rw [w_bind] at h
  exact ha _ _ _ _ (w_mono h fun d M1 h => w_ofO h)
theorem ok_2 (ha : OkM a xa) (hb : OkM b xb) : OkM (m2 f a b) (x2 f xa xb) := by
  intro env M P E h
  unfold x2 at h
  rw [w_bind] at h
  refine ha _ _ _ _ (w_mono h fun d M1 h => ?_)
  rw [w_bind] at h
  exact hb _ _ _ _ (w_mono h fun e M2 h => w_ofO h)
theorem ok_l1 {f1 : D → List O → Option (List D)} (ha : OkM a xa) : OkL (l1 f1 a) (xl1 f1 xa) := by
  intro env M P E h
  unfold xl1 at h
  rw [w_bind] at h
  exact ha _ _ _ _ (w_mono h fun d M1 h => w_ofO h)
theorem ok_l2 {f : D → D → List O → Option (List D)} (ha : OkM a xa) (hb : OkM b xb) : OkL (l2 f a b) (xl2 f xa xb) := by
  intro env M P E h
  unfold xl2 at h
  rw [w_bind] at h
  refine ha _ _ _ _ (w_mono h fun d M1 h => ?_)
  rw [w_bind] at h
  exact hb _ _ _ _ (w_mono h fun e M2 h => w_ofO h)
theorem ok_T (ha : OkM a xa) : OkB (mT a) (xT xa) := by
  intro env M P E h
  unfold xT at h
  rw [w_bind] at h
  refine ha _ _ _ _ (w_mono h fun d M1 h => ?_)
  obtain ⟨b, e, h⟩ := w_ofO h
  exact ⟨b, toB_ok e, h⟩
theorem ok_chain (ha : OkM a xa) (hb : OkM b xb) (hc : OkM c xc) : OkM (mChain f g a b c) (xChain f g xa xb xc) := by
  intro env M P E h
  unfold xChain at h
  rw [w_bind] at h
  refine ha _ _ _ _ (w_mono h fun x M1 h => ?_)
  rw [w_bind] at h
  refine hb _ _ _ _ (w_mono h fun y M2 h => ?_)
  rw [w_bind] at h
  obtain ⟨s, e, h⟩ := w_ofO h
  obtain ⟨d, e1, e2⟩ := Option.bind_eq_some_iff.mp e
  rw [toB_ok e2] at e1
  refine ⟨s, e1, ?_⟩
  cases s with
  | true =>
    simp only [if_true] at h ⊢
    rw [w_bind] at h
    exact hc _ _ _ _ (w_mono h fun z M3 h => w_ofO h)
  | false => exact h
theorem ok_bAnd (h1 : OkB t xt) (h2 : OkB u xu) : OkB (bAnd t u) (xbAnd xt xu) := by
  intro env M P E h
  unfold xbAnd at h
  rw [w_bind] at h
  refine h1 _ _ _ _ (w_mono h fun x M1 h => ?_)
  cases x with
  | true => exact h2 _ _ _ _ h
  | false => exact h
theorem ok_bOr (h1 : OkB t xt) (h2 : OkB u xu) : OkB (bOr t u) (xbOr xt xu) := by
  intro env M P E h
  unfold xbOr at h
  rw [w_bind] at h
  refine h1 _ _ _ _ (w_mono h fun x M1 h => ?_)
  cases x with
  | true => exact h
  | false => exact h2 _ _ _ _ h
theorem ok_bNot (h1 : OkB t xt) : OkB (bNot t) (xbNot xt) := by
  intro env M P E h
  unfold xbNot at h
  rw [w_bind] at h
  exact h1 _ _ _ _ (w_mono h fun x M1 h => h)
theorem ok_and (ha : OkM a xa) (hb : OkM b xb) : OkM (mAnd a b) (xAnd xa xb) := by
  intro env M P E h
  unfold xAnd at h
  rw [w_bind] at h
  refine ha _ _ _ _ (w_mono h fun x M1 h => ?_)
  rw [w_bind] at h
  obtain ⟨s, e, h⟩ := w_ofO h
  refine ⟨s, toB_ok e, ?_⟩
  cases s with
  | true => exact hb _ _ _ _ h
  | false => exact h
theorem ok_or (ha : OkM a xa) (hb : OkM b xb) : OkM (mOr a b) (xOr xa xb) := by
  intro env M P E h
  unfold xOr at h
  rw [w_bind] at h
  refine ha _ _ _ _ (w_mono h fun x M1 h => ?_)
  rw [w_bind] at h
  obtain ⟨s, e, h⟩ := w_ofO h
  refine ⟨s, toB_ok e, ?_⟩
  cases s with
  | true => exact h
  | false => exact hb _ _ _ _ h
theorem ok_not (ha : OkM a xa) : OkM (mNot a) (xNot xa) := by
  intro env M P E h
  unfold xNot at h
  rw [w_bind] at h
  refine ha _ _ _ _ (w_mono h fun x M1 h => ?_)
  rw [w_bind] at h
  obtain ⟨s, e, h⟩ := w_ofO h
  exact ⟨s, toB_ok e, h⟩
theorem ok_if (ht : OkB t xt) (ha : OkM a xa) (hb : OkM b xb) : OkM (mIf t a b) (xIf xt xa xb) := by
  intro env M P E h
  unfold xIf at h
  rw [w_bind] at h
  refine ht _ _ _ _ (w_mono h fun x M1 h => ?_)
  cases x with
  | true => exact ha _ _ _ _ h
  | false => exact hb _ _ _ _ h
theorem ok_nil : OkL aNil xNil := fun env M P E h => h
theorem ok_cons (ha : OkM a xa) (hr : OkL r xr) : OkL (aCons a r) (xCons xa xr) := by
  intro env M P E h
  unfold xCons at h
  rw [w_bind] at h
  refine ha _ _ _ _ (w_mono h fun x M1 h => ?_)
  rw [w_bind] at h
  exact hr _ _ _ _ (w_mono h fun x M1 h => h)
theorem ok_tup (hr : OkL r xr) : OkM (mTup r) (xTup xr) := by
  intro env M P E h
  unfold xTup at h
  rw [w_bind] at h
  refine hr _ _ _ _ (w_mono h fun ds M1 h => ?_)
  split at h
  · exact ⟨‹_›, h⟩
  · exact h.elim
theorem ok_disp (hr : OkL r xr) : OkL (lDisp r) (xDisp xr) := by
  intro env M P E h
  unfold xDisp at h
  rw [w_bind] at h
  refine hr _ _ _ _ (w_mono h fun ds M1 h => ?_)
  split at h
  · exact ⟨‹_›, h⟩
  · exact h.elim
theorem ok_lF {c : Bool} (hr : OkL r xr) : OkM (lF c r) (xF c xr) := by
  intro env M P E h
  unfold xF at h
  rw [w_bind] at h
  cases c with
  | true => exact hr _ _ _ _ (w_mono h fun ds M1 h => h)
  | false => exact hr _ _ _ _ (w_mono h fun ds M1 h => h)
theorem ok_oNo : OkO oNo xoNo := fun env M P E h => h
theorem ok_oAt (ha : OkM a xa) : OkO (oAt a) (xoAt xa) := by
  intro env M P E h
  unfold xoAt at h
  rw [w_bind] at h
  refine ha _ _ _ _ (w_mono h fun x M1 h => ?_)
  rw [w_bind] at h
  obtain ⟨s, e, h⟩ := w_ofO h
  exact ⟨s, toI_ok e, h⟩
theorem ok_cut {lo hi : TO'} {xlo xhi : XO} (ha : OkM a xa) (h1 : OkO lo xlo) (h2 : OkO hi xhi) : OkM (mCut a lo hi) (xCut xa xlo xhi) := by
  intro env M P E h
  unfold xCut at h
  rw [w_bind] at h
  refine ha _ _ _ _ (w_mono h fun x M1 h => ?_)
  rw [w_bind] at h
  refine h1 _ _ _ _ (w_mono h fun x M1 h => ?_)
  rw [w_bind] at h
  exact h2 _ _ _ _ (w_mono h fun x M1 h => w_ofO h)
theorem ok_lcut {lo hi : TO'} {xlo xhi : XO} (ha : OkM a xa) (h1 : OkO lo xlo) (h2 : OkO hi xhi) : OkL (lCut a lo hi) (xlCut xa xlo xhi) := by
  intro env M P E h
  unfold xlCut at h
  rw [w_bind] at h
  refine ha _ _ _ _ (w_mono h fun x M1 h => ?_)
  rw [w_bind] at h
  refine h1 _ _ _ _ (w_mono h fun x M1 h => ?_)
  rw [w_bind] at h
  refine h2 _ _ _ _ (w_mono h fun x M1 h => ?_)
  obtain ⟨s, e, h⟩ := w_ofO h
  obtain ⟨d, e1, e2⟩ := Option.map_eq_some_iff.mp e
  exact ⟨d, e1, e2 ▸ h⟩
theorem ok_r1 (ha : OkM a xa) : OkI (r1 a) (xi1 xa) := by
  intro env M P E h
  unfold xi1 at h
  rw [w_bind] at h
  refine ha _ _ _ _ (w_mono h fun x M1 h => ?_)
  rw [w_bind] at h
  obtain ⟨s, e, h⟩ := w_ofO h
  exact ⟨s, toI_ok e, h⟩
theorem ok_r2 (ha : OkM a xa) (hb : OkM b xb) : OkI (r2 a b) (xi2 xa xb) := by
  intro env M P E h
  unfold xi2 at h
  rw [w_bind] at h
  refine ha _ _ _ _ (w_mono h fun x M1 h => ?_)
  rw [w_bind] at h
  refine hb _ _ _ _ (w_mono h fun y M2 h => ?_)
  rw [w_bind] at h
  obtain ⟨i, e, h⟩ := w_ofO h
  rw [w_bind] at h
  obtain ⟨j, e', h⟩ := w_ofO h
  exact ⟨i, j, toI_ok e, toI_ok e', h⟩
theorem ok_range {m : lR2} {x : XI} (hm : OkI m x) : OkM (mRange m) (xRange x) := by
  intro env M P E h
  unfold xRange at h
  rw [w_bind] at h
  refine hm _ _ _ _ (w_mono h fun p M1 h => ?_)
  split at h
  · exact ⟨‹_›, h⟩
  · exact h.elim
theorem ok_lrange {m : lR2} {x : XI} (hm : OkI m x) : OkL (lRange m) (xlRange x) := by
  intro env M P E h
  unfold xlRange at h
  rw [w_bind] at h
  refine hm _ _ _ _ (w_mono h fun p M1 h => ?_)
  split at h
  · exact ⟨‹_›, h⟩
  · exact h.elim
theorem ok_iOf (ha : OkM a xa) : OkL (iOf a) (xiOf xa) := by
  intro env M P E h
  unfold xiOf at h
  rw [w_bind] at h
  exact ha _ _ _ _ (w_mono h fun d M1 h => w_ofO h)
theorem ok_iRg1 (ha : OkM a xa) : OkL (iRg1 a) (xiRg1 xa) := by
  intro env M P E h
  unfold xiRg1 at h
  rw [w_bind] at h
  refine ha _ _ _ _ (w_mono h fun d M1 h => ?_)
  rw [w_bind] at h
  obtain ⟨i, e, h⟩ := w_ofO h
  split at h
  · rename_i q; exact ⟨i, toI_ok e, q.1, q.2, h⟩
  · exact h.elim
theorem ok_iRg2 (ha : OkM a xa) (hb : OkM b xb) : OkL (iRg2 a b) (xiRg2 xa xb) := by
  intro env M P E h
  unfold xiRg2 at h
  rw [w_bind] at h
  refine ha _ _ _ _ (w_mono h fun d M1 h => ?_)
  rw [w_bind] at h
  refine hb _ _ _ _ (w_mono h fun y M2 h => ?_)
  rw [w_bind] at h
  obtain ⟨i, e, h⟩ := w_ofO h
  rw [w_bind] at h
  obtain ⟨j, e', h⟩ := w_ofO h
  split at h
  · rename_i q; exact ⟨i, j, toI_ok e, toI_ok e', q, h⟩
  · exact h.elim
theorem ok_iEnL (ha : OkM a xa) : OkL (iEnL a) (xiEnL xa) := by
  intro env M P E h
  unfold xiEnL at h
  rw [w_bind] at h
  refine ha _ _ _ _ (w_mono h fun d M1 h => ?_)
  obtain ⟨i, e, h⟩ := w_ofO h
  obtain ⟨xs, e1, e2⟩ := Option.map_eq_some_iff.mp e
  exact ⟨xs, toLst_ok e1, e2 ▸ h⟩
theorem ok_iEnTu (ha : OkM a xa) : OkL (iEnTu a) (xiEnTu xa) := by
  intro env M P E h
  unfold xiEnTu at h
  rw [w_bind] at h
  refine ha _ _ _ _ (w_mono h fun d M1 h => ?_)
  obtain ⟨i, e, h⟩ := w_ofO h
  obtain ⟨xs, e1, e2⟩ := Option.map_eq_some_iff.mp e
  exact ⟨xs, toTup_ok e1, e2 ▸ h⟩
theorem ok_iZip (ha : OkM a xa) (hb : OkM b xb) : OkL (iZip a b) (xiZip xa xb) := by
  intro env M P E h
  unfold xiZip at h
  rw [w_bind] at h
  refine ha _ _ _ _ (w_mono h fun d M1 h => ?_)
  rw [w_bind] at h
  refine hb _ _ _ _ (w_mono h fun y M2 h => ?_)
  obtain ⟨i, e, h⟩ := w_ofO h
  obtain ⟨p, e1, e2⟩ := Option.map_eq_some_iff.mp e
  exact ⟨p.1, p.2, zipOf_ok e1, e2 ▸ h⟩
theorem ok_lZip (ha : OkM a xa) (hb : OkM b xb) : OkL (lZip a b) (xlZip xa xb) := by
  intro env M P E h
  unfold xlZip at h
  rw [w_bind] at h
  refine ha _ _ _ _ (w_mono h fun d M1 h => ?_)
  rw [w_bind] at h
  refine hb _ _ _ _ (w_mono h fun y M2 h => ?_)
  rw [w_bind] at h
  obtain ⟨us, e, h⟩ := w_ofO h
  rw [w_bind] at h
  obtain ⟨vs, e', h⟩ := w_ofO h
  split at h
  · rename_i q; exact ⟨us, vs, ⟨toLst_ok e, toLst_ok e'⟩, q, h⟩
  · exact h.elim
theorem ok_lenAnd (ha : OkM a xa) (hb : OkM b xb) : OkM (mLenAnd a b) (xLenAnd xa xb) := by
  intro env M P E h
  unfold xLenAnd at h
  rw [w_bind] at h
  refine ha _ _ _ _ (w_mono h fun d M1 h => ?_)
  rw [w_bind] at h
  obtain ⟨ns, e, h⟩ := w_ofO h
  split at h
  · rename_i hl
    rw [w_bind] at h
    refine ⟨ns, e, hl, hb _ _ _ _ (w_mono h fun y M2 h => ?_)⟩
    rw [w_bind] at h
    obtain ⟨ms, e', h⟩ := w_ofO h
    split at h
    · rename_i hl'; exact ⟨ms, e', hl', h⟩
    · exact h.elim
  · exact h.elim
theorem ok_srt (ha : OkM a xa) : OkL (l1 fSrt a) (xl1 fSrtF xa) := by rw [fSrtF_eq]; exact ok_l1 ha
theorem ok_gN {i : Nat} : OkG (gN i) (xgN i) := fun d env M P ⟨r, e, h⟩ => by cases e; exact h
inductive OkGs : List TGm → List XG → Prop
  | nil : OkGs [] []
  | cons {g : TGm} {x : XG} {gs : List TGm} {xs : List XG} (h : OkG g x) (r : OkGs gs xs) : OkGs (g :: gs) (x :: xs)
theorem OkGs.len {gs : List TGm} {xs : List XG} (h : OkGs gs xs) : xs.length = gs.length := by
  induction h with
  | nil => rfl
  | cons _ _ ih => simp [ih]
theorem OkGs.w {gs : List TGm} {xs : List XG} (h : OkGs gs xs) : ∀ (ds : List D) (env : Env) (M : List O) (P : NX) (r : Env × List O), xgsW xs ds env M = some r → P r.1 r.2 → gsW gs ds env M P := by
  induction h with
  | nil => intro ds env M P r e h; unfold xgsW at e; cases e; unfold gsW; exact h
  | cons hg _ ih =>
    intro ds env M P r e h
    cases ds with
    | nil => unfold xgsW at e; cases e
    | cons d ds =>
      unfold xgsW at e
      obtain ⟨q, e1, e2⟩ := Option.bind_eq_some_iff.mp e
      unfold gsW
      exact hg _ _ _ _ ⟨q, e1, ih ds _ _ P r e2 h⟩
theorem ok_gT {gs : List TGm} {xs : List XG} (hs : OkGs gs xs) : OkG (gT gs) (xgT xs) := by
  intro d env M P ⟨r, e, h⟩
  unfold xgT at e
  obtain ⟨q, e1, e2⟩ := Option.bind_eq_some_iff.mp e
  split at e2
  · rename_i hl
    exact ⟨q, e1, hl.trans hs.len, hs.w q env M P r e2 h⟩
  · cases e2
theorem okO_w {α : Type} {r : Res α} {p : α × List O} {P : α → List O → Prop} {E : XQ} (h : okO r = some p) (k : P p.1 p.2) : r.w P E := by
  cases r <;> simp [okO] at h
  subst h; exact k
theorem ok_gSub (ha : OkM a xa) (hb : OkM b xb) : OkG (gSub a b) (xgSub xa xb) := by
  intro d env M P ⟨r, e, h⟩
  unfold xgSub at e
  obtain ⟨s, e1, e⟩ := Option.bind_eq_some_iff.mp e
  obtain ⟨t, e2, e⟩ := Option.bind_eq_some_iff.mp e
  obtain ⟨c, e3, e⟩ := Option.bind_eq_some_iff.mp e
  obtain ⟨n, e4, e⟩ := Option.bind_eq_some_iff.mp e
  obtain ⟨xs, e5, e⟩ := Option.bind_eq_some_iff.mp e
  obtain ⟨j, e6, e⟩ := Option.bind_eq_some_iff.mp e
  cases e
  exact ha _ _ _ _ (okO_w e1 (hb _ _ _ _ (okO_w e2 ⟨c, n, xs, j, toR_ok e3, toI_ok e4, lstAt_ok e5, e6, h⟩)))
theorem ok_yes : OkB bYes xbYes := fun env M P E h => h
theorem ok_compW {step : D → List O → (Option D → List O → Prop) → Prop} {xs : D → List O → Res (Option D)} (hs : ∀ d M k E, (xs d M).w k E → step d M k) (hn : ∀ d M x N, xs d M ≠ .ex x N) : ∀ (ds acc : List D) (M : List O) (P : QL) (E : XQ), (xCompW xs ds acc M).w P E → compW step ds acc M P
  | [], acc, M, P, E, h => h
  | d :: r, acc, M, P, E, h => by
    unfold xCompW at h
    rw [w_bind] at h
    unfold compW
    refine hs d M _ E (w_mono h fun y M' h => ?_)
    cases y with
    | some z => exact ok_compW hs hn r _ _ P E h
    | none => exact ok_compW hs hn r _ _ P E h
theorem ok_comp {own : List Nat} {g : TGm} {xg : XG} (hi : OkL r xr) (hg : OkG g xg) (ht : OkB t xt) (ha : OkM a xa) : OkL (lComp own r g t a) (xComp own xr xg xt xa) := by
  intro env M P E h
  unfold xComp at h
  rw [w_bind] at h
  refine hi _ _ _ _ (w_mono h fun ds M1 h => ?_)
  split at h
  · rename_i hl
    refine ⟨hl, ok_compW (xs := xCompS (wipeE env own) xg xt xa) (fun d M k E h => ?_) (fun d M x N h => ?_) ds [] M1 P E h⟩
    · unfold xCompS at h
      rw [w_bind] at h
      obtain ⟨p, e, h⟩ := w_ofO h
      refine hg _ _ _ _ ⟨p, e, ?_⟩
      rw [w_bind] at h
      refine ht _ _ _ _ (w_mono (w_nx h) fun b M3 h => ?_)
      cases b with
      | true =>
        simp only [if_true] at h ⊢
        rw [w_bind] at h
        exact ha _ _ _ _ (w_mono (w_nx h) fun y M4 h => h)
      | false => exact h
    · unfold xCompS at h
      cases e : xg d (wipeE env own) M with
      | none => rw [e] at h; cases h
      | some p =>
        rw [e] at h
        have h2 : ((xt p.1 p.2).nx).bind (fun b M3 => if b = true then ((xa p.1 M3).nx).bind fun y M4 => .ok (some y) M4 else .ok none M3) = Res.ex x N := h
        cases e2 : xt p.1 p.2 with
        | ok b M3 =>
          rw [e2] at h2
          have h3 : (if b = true then ((xa p.1 M3).nx).bind fun y M4 => .ok (some y) M4 else .ok none M3) = Res.ex x N := h2
          split at h3
          · cases e4 : xa p.1 M3 with
            | ok y M4 => rw [e4] at h3; cases h3
            | ex y M4 => rw [e4] at h3; cases h3
            | no => rw [e4] at h3; cases h3
          · cases h3
        | ex y M4 => rw [e2] at h2; cases h2
        | no => rw [e2] at h2; cases h2
  · exact h.elim
theorem ok_mut {fm : List D → List D → List O → Option (D × List D)} (ha : OkM a xa) (hr : OkL r xr) : OkM (mMut fm a r) (xMut fm xa xr) := by
  intro env M P E h
  unfold xMut at h
  rw [w_bind] at h
  refine ha _ _ _ _ (w_mono h fun s M1 h => ?_)
  rw [w_bind] at h
  obtain ⟨c, e, h⟩ := w_ofO h
  obtain ⟨c', e1, e⟩ := Option.bind_eq_some_iff.mp e
  obtain ⟨ys, e2, e3⟩ := Option.map_eq_some_iff.mp e
  subst e3
  rw [w_bind] at h
  refine ⟨c', ys, toR_ok e1, lstAt_ok e2, hr _ _ _ _ (w_mono h fun ds M2 h => ?_)⟩
  rw [w_bind] at h
  obtain ⟨q, e4, h⟩ := w_ofO h
  obtain ⟨xs, e5, e6⟩ := Option.bind_eq_some_iff.mp e4
  exact ⟨xs, q.1, q.2, lstAt_ok e5, e6, h⟩
theorem closeR_w {n : Nat} {d : D} {M : List O} {P : QE} {E : XQ} (h : (closeR n d M).w P E) : CL n d M P := by
  unfold closeR at h
  split at h
  · rename_i d' e
    split at h
    · exact ⟨d', e, ‹_›, h⟩
    · exact h.elim
  · exact h.elim
theorem ok_call {sp : FSp} {xf : XF} {dds : List D} (hf : OkF sp xf) (hr : OkL r xr) : OkM (mCall sp dds r) (xCall xf dds xr) := by
  intro env M P E h
  unfold xCall at h
  rw [w_bind] at h
  exact hr _ _ _ _ (w_mono h fun ds M1 h => hf _ _ _ _ h)
theorem ok_make {sp : FSp} {xf : XF} {dds : List D} {cn : Str} (hf : OkF sp xf) (hr : OkL r xr) : OkM (mMake cn sp dds r) (xMake cn xf dds xr) := by
  intro env M P E h
  unfold xMake at h
  rw [w_bind] at h
  refine hr _ _ _ _ (w_mono h fun ds M1 h => hf _ _ _ _ ?_)
  split at h
  · rename_i M2 e; rw [e]; exact ⟨rfl, closeR_w h⟩
  · rename_i d M2 e
    rw [e]
    split at h
    · rename_i d' M3 e2
      exact closeR_w (E := noX) (by rw [e2]; exact h)
    · exact h.elim
  · exact h.elim
theorem ok_meth {sp : FSp} {xf : XF} {dds : List D} {cn m : Str} (hf : OkF sp xf) (ha : OkM a xa) (hr : OkL r xr) : OkM (mMeth cn m sp dds a r) (xMeth cn m xf dds xa xr) := by
  intro env M P E h
  unfold xMeth at h
  rw [w_bind] at h
  refine ha _ _ _ _ (w_mono h fun d M1 h => ?_)
  split at h
  · rw [w_bind] at h
    exact ⟨‹_›, hr _ _ _ _ (w_mono h fun ds M1 h => hf _ _ _ _ h)⟩
  · exact h.elim
inductive OkT : List (Str × FSp) → List (Str × XF) → Prop
  | nil : OkT [] []
  | cons {x : Str} {sp : FSp} {f : XF} {T : List (Str × FSp)} {U : List (Str × XF)} (h : OkF sp f) (r : OkT T U) : OkT ((x, sp) :: T) ((x, f) :: U)
theorem OkT.at {T : List (Str × FSp)} {U : List (Str × XF)} (h : OkT T U) {x : Str} {f : XF} (e : U.lookup x = some f) : ∃ sp, T.lookup x = some sp ∧ OkF sp f := by
  induction h with
  | nil => cases e
  | cons h r ih =>
    rw [List.lookup_cons] at e ⊢
    split at e
    · rename_i q
      cases e
      exact ⟨_, rfl, h⟩
    · exact ih e
theorem ok_callV {T : List (Str × FSp)} {U : List (Str × XF)} {i : Nat} (hT : OkT T U) (hr : OkL r xr) : OkM (mCallV T i r) (xCallV U i xr) := by
  intro env M P E h
  unfold xCallV at h
  split at h
  · rename_i f e
    obtain ⟨x, e1, e2⟩ := Option.bind_eq_some_iff.mp e
    obtain ⟨sp, e3, hf⟩ := hT.at e2
    rw [w_bind] at h
    refine ⟨x, sp, ?_, e3, hr _ _ _ _ (w_mono h fun ds M1 h => hf _ _ _ _ h)⟩
    unfold glAt at e1
    split at e1
    · rename_i q; cases e1; exact q
    · cases e1
  · exact h.elim
end
section
variable {a b c : TM} {xa xb xc : XM} {r : TL} {xr : XL} {t : TB} {xt : XB} {s s2 : TSm} {xs xs2 : XS} {g : TGm} {xg : XG}
theorem ok_sNil : OkS sNil xsNil := fun env M K h => h
theorem ok_sSeq (h1 : OkS s xs) (h2 : OkS s2 xs2) : OkS (sSeq s s2) (xsSeq xs xs2) := by
  intro env M K h
  unfold xsSeq at h
  rw [w_bind] at h
  refine h1 _ _ _ (w_mono h fun o M' h => ?_)
  cases o with
  | nx env' => exact h2 _ _ _ h
  | rt d => exact h
theorem ok_sExpr (ha : OkM a xa) : OkS (sExpr a) (xsExpr xa) := by
  intro env M K h
  unfold xsExpr at h
  rw [w_bind] at h
  exact ha _ _ _ _ (w_mono h fun o M' h => h)
theorem ok_sRet (ha : OkM a xa) : OkS (sRet a) (xsRet xa) := by
  intro env M K h
  unfold xsRet at h
  rw [w_bind] at h
  exact ha _ _ _ _ (w_mono h fun o M' h => h)
theorem ok_sRetN : OkS sRetN xsRetN := fun env M K h => h
theorem ok_sIf (ht : OkB t xt) (h1 : OkS s xs) (h2 : OkS s2 xs2) : OkS (sIf t s s2) (xsIf xt xs xs2) := by
  intro env M K h
  unfold xsIf at h
  rw [w_bind] at h
  refine ht _ _ _ _ (w_mono h fun o M' h => ?_)
  cases o with
  | true => exact h1 _ _ _ h
  | false => exact h2 _ _ _ h
theorem ok_sAsg (ha : OkM a xa) (hg : OkG g xg) : OkS (sAsg a g) (xsAsg xa xg) := by
  intro env M K h
  unfold xsAsg at h
  rw [w_bind] at h
  refine ha _ _ _ _ (w_mono h fun d M' h => ?_)
  split at h
  · rename_i q e; exact hg _ _ _ _ ⟨q, e, h⟩
  · exact h.elim
theorem ok_sPar {i j : Nat} (hr : OkL r xr) : OkS (sPar i j r) (xsPar i j xr) := by
  intro env M K h
  unfold xsPar at h
  rw [w_bind] at h
  refine hr _ _ _ _ (w_mono h fun d M' h => ?_)
  split at h
  · rename_i d e; exact ⟨d, e, rfl, h⟩
  · exact h.elim
theorem ok_sPar3 {i j l : Nat} (hr : OkL r xr) : OkS (sPar3 i j l r) (xsPar3 i j l xr) := by
  intro env M K h
  unfold xsPar3 at h
  rw [w_bind] at h
  refine hr _ _ _ _ (w_mono h fun d M' h => ?_)
  split at h
  · rename_i d e f; exact ⟨d, e, f, rfl, h⟩
  · exact h.elim
theorem ok_forW (hg : OkG g xg) (hs : OkS s xs) (K : Kt) : ∀ (ds : List D) (env : Env) (M : List O), (xForW xg xs ds env M).w (outK K) K.ex → forW (forS g s K) ds env M K.nx
  | [], env, M, h => h
  | x :: r, env, M, h => by
    unfold xForW at h
    unfold forW
    split at h
    · rename_i p e
      rw [w_bind] at h
      refine hg _ _ _ _ ⟨p, e, hs _ _ _ (w_mono h fun o M' h => ?_)⟩
      cases o with
      | nx env' => exact ok_forW hg hs K r env' M' h
      | rt d => exact h
    · exact h.elim
theorem ok_sFor (hr : OkL r xr) (hg : OkG g xg) (hs : OkS s xs) : OkS (sFor r g s) (xsFor xr xg xs) := by
  intro env M K h
  unfold xsFor at h
  rw [w_bind] at h
  exact hr _ _ _ _ (w_mono h fun ds M' h => ok_forW hg hs K ds env M' h)
theorem ok_sWhile (ht : OkB t xt) (hs : OkS s xs) : OkS (sWhile t s) (xsWhile xt xs) := by
  intro env M K h
  refine ⟨fun m env M => (xWh xt xs m env M).w (outK K) K.ex, ⟨fuel, h⟩, fun m env M h => ?_⟩
  cases m with
  | zero => exact h.elim
  | succ n =>
    unfold xWh at h
    rw [w_bind] at h
    refine ht _ _ _ _ (w_mono h fun b M1 h => ?_)
    cases b with
    | true =>
      simp only [if_true] at h ⊢
      rw [w_bind] at h
      refine hs _ _ _ (w_mono h fun o M2 h => ?_)
      cases o with
      | nx env' => exact ⟨n, Nat.lt_succ_self n, h⟩
      | rt d => exact h
    | false => exact h
theorem ok_sFld {f : Str} (ha : OkM a xa) (hb : OkM b xb) : OkS (sFld f a b) (xsFld f xa xb) := by
  intro env M K h
  unfold xsFld at h
  rw [w_bind] at h
  refine hb _ _ _ _ (w_mono h fun d M1 h => ?_)
  rw [w_bind] at h
  refine ha _ _ _ _ (w_mono h fun s M2 h => ?_)
  split at h
  · rename_i x c fs xs e
    obtain ⟨x', e1, e2⟩ := Option.bind_eq_some_iff.mp e
    obtain ⟨p, e3, e4⟩ := Option.map_eq_some_iff.mp e2
    cases e4
    split at h
    · rename_i q; exact ⟨x, c, fs, xs, toR_ok e1, insAt_ok e3, q.1, q.2, h⟩
    · exact h.elim
  · exact h.elim
theorem ok_sRaise {cn f : Str} (ha : OkM a xa) : OkS (sRaise cn f a) (xsRaise cn f xa) := by
  intro env M K h
  unfold xsRaise at h
  rw [w_bind] at h
  exact ha _ _ _ _ (w_mono h fun d M1 h => h)
inductive OkH : List ClD → List XCl → Prop
  | nil : OkH [] []
  | cons {c : Str} {i : Option Nat} {h : D → TSm} {x : D → XS} {ls : List ClD} {xs : List XCl} (hs : ∀ d, OkS (h d) (x d)) (r : OkH ls xs) : OkH (⟨c, i, h⟩ :: ls) (⟨c, i, x⟩ :: xs)
theorem OkH.w {n : Nat} {K : Kt} {ls : List ClD} {xs : List XCl} (h : OkH ls xs) : ∀ (d : D) (M : List O), (xHd n xs d M).w (outK K) K.ex → hdW n K ls d M := by
  induction h with
  | nil => intro d M h; exact h
  | cons hs r ih =>
    rename_i c i hh x ls xs
    intro d M h
    unfold xHd at h
    unfold hdW
    split at h
    · rename_i c' fs ys
      split at h
      · rename_i hb
        refine ⟨hb, ?_⟩
        split at h
        · rename_i hc
          rw [w_bind] at h
          rw [if_pos hc]
          have ek : (hdK i K).ex = noX := by cases i <;> rfl
          refine hs _ _ _ _ ?_
          show ((x (.ins c' fs ys) (List.replicate n none) M)).w (outK (hdK i K)) (hdK i K).ex
          rw [ek]
          refine w_mono (w_nx h) fun o M' h => ?_
          cases i with
          | none => cases o <;> exact h
          | some i => cases o <;> exact h
        · rename_i hc
          rw [if_neg hc]
          exact ih _ _ h
      · exact h.elim
    · exact h.elim
theorem ok_sTry {n : Nat} {ls : List ClD} {hs : List XCl} (h1 : OkS s xs) (h2 : OkH ls hs) : OkS (sTry n s ls) (xsTry n xs hs) := by
  intro env M K h
  unfold xsTry at h
  refine h1 _ _ _ ?_
  split at h
  · rename_i d M' e
    rw [e]
    exact h2.w d M' h
  · rename_i hne
    cases e : xs env M with
    | ok o M' => rw [e] at h; exact h
    | ex d M' => exact absurd e (hne d M')
    | no => rw [e] at h; exact h
theorem ok_sNo : OkS sNo xsNo := fun env M K h => h
theorem ok_sDPut (ha : OkM a xa) (hb : OkM b xb) (hc : OkM c xc) : OkS (sDPut a b c) (xsDPut xa xb xc) := by
  intro env M K h
  unfold xsDPut at h
  rw [w_bind] at h
  refine hc _ _ _ _ (w_mono h fun d M1 h => ?_)
  rw [w_bind] at h
  refine ha _ _ _ _ (w_mono h fun s M2 h => ?_)
  rw [w_bind] at h
  refine hb _ _ _ _ (w_mono h fun key M3 h => ?_)
  have di : ∀ {x : Nat} {p : Ks × List D}, dicAt M3 x = some p → M3[x]? = some (.dic p.1 p.2) := fun {x p} e => by
    unfold dicAt at e
    split at e
    · rename_i q; cases e; exact q
    · cases e
  split at h
  · rename_i x l ys e
    obtain ⟨x', e1, e2⟩ := Option.bind_eq_some_iff.mp e
    obtain ⟨p, e3, e4⟩ := Option.map_eq_some_iff.mp e2
    cases e4
    split at h
    · rename_i hl
      split at h
      · rename_i k ek; exact ⟨x, _, ys, toR_ok e1, di e3, hl, k, ek, h⟩
      · exact h.elim
    · exact h.elim
  · rename_i x l ys e
    obtain ⟨x', e1, e2⟩ := Option.bind_eq_some_iff.mp e
    obtain ⟨p, e3, e4⟩ := Option.map_eq_some_iff.mp e2
    cases e4
    split at h
    · rename_i hl
      split at h
      · rename_i k ek; exact ⟨x, _, ys, toR_ok e1, di e3, hl, k, ek, h⟩
      · exact h.elim
    · exact h.elim
  · exact h.elim
theorem ok_fn {n np : Nat} (hs : OkS s xs) : OkF (fSp s n np) (xFn xs n np) := by
  intro ds M P E h
  unfold xFn at h
  split at h
  · rename_i hl
    refine ⟨hl, hs _ _ _ ?_⟩
    split at h
    · rename_i d M' e; rw [e]; exact closeR_w h
    · rename_i env M' e; rw [e]; exact closeR_w h
    · rename_i d M' e
      rw [e]
      split at h
      · rename_i d' M2 e2; exact closeR_w (E := noX) (by rw [e2]; exact h)
      · exact h.elim
    · exact h.elim
  · exact h.elim
theorem ok_fnC {n np : Nat} (hs : OkS s xs) : OkF (fSpC s n np) (xFnC xs n np) := by
  intro ds M P E h
  unfold xFnC at h
  split at h
  · rename_i hl
    refine ⟨hl, hs _ _ _ ?_⟩
    split at h
    · rename_i x M' e
      rw [e]
      split at h
      · rename_i ys e2
        split at h
        · rename_i q; exact ⟨x, ys, rfl, q.1, lstAt_ok e2, q.2.1, q.2.2, h⟩
        · exact h.elim
      · exact h.elim
    · rename_i d M' e
      rw [e]
      split at h
      · rename_i d' M2 e2; exact closeR_w (E := noX) (by rw [e2]; exact h)
      · exact h.elim
    · exact h.elim
  · exact h.elim
end
theorem ok_never {np n : Nat} {f : XF} (h : ∀ ds M, f ds M = .no) : OkF (fSp sNo n np) f := fun ds M P E k => by rw [h] at k; exact k.elim
end Mi
end
section
set_option maxHeartbeats 4000000
namespace Mi
open PySem (Str)
section
variable {α β : Type}
theorem nonrfl {α : Type} {a b : α} (h : a = b) : a = b := by cases h; exact Eq.refl _
theorem bind_ok {a : α} {M : List O} {f : α → List O → Res β} : (Res.ok a M).bind f = f a M := nonrfl rfl
theorem bind_ex {d : D} {M : List O} {f : α → List O → Res β} : (Res.ex d M : Res α).bind f = .ex d M := nonrfl rfl
theorem ofO_some {a : α} {M : List O} : ofO (some a) M = .ok a M := nonrfl rfl
theorem nx_ok {a : α} {M : List O} : (Res.ok a M).nx = .ok a M := nonrfl rfl
end
/-- what lies in the memory names what is in it -/
def MemOk (M : List O) : Prop := M.all (RBO M.length) = true
theorem closeR_ok {d : D} {M R : List O} (hM : MemOk M) (h : clD M.length (M ++ R) d = some d) : closeR M.length d (M ++ R) = .ok d M := by
  unfold closeR
  rw [h, List.take_left']
  · show (if M.all (RBO M.length) = true then _ else _) = _
    rw [if_pos (show M.all (RBO M.length) = true from hM)]
  · rfl
abbrev nI (n : Nat) : D := .int n
def tN (l : List Nat) : D := .tup (l.map nI)
def tT (l : List (List Nat)) : D := .tup (l.map tN)
mutual
/-- data without cells -/
def nr : D → Bool
  | .tup xs => nrs xs
  | .lst xs => nrs xs
  | .ins _ _ xs => nrs xs
  | .dic _ xs => nrs xs
  | .slst xs => nrs xs
  | .ref _ => false
  | _ => true
def nrs : List D → Bool
  | [] => true
  | d :: ds => nr d && nrs ds
end
mutual
theorem nr_cl {n : Nat} {M : List O} : ∀ {d : D}, nr d = true → clD n M d = some d
  | .tup xs, h => by unfold clD; rw [nrs_cl (by simpa [nr] using h)]
  | .lst xs, h => by unfold clD; rw [nrs_cl (by simpa [nr] using h)]
  | .ins c fs xs, h => by unfold clD; rw [nrs_cl (by simpa [nr] using h)]
  | .dic ks xs, h => by unfold clD; rw [nrs_cl (by simpa [nr] using h)]
  | .slst xs, h => by unfold clD; rw [nrs_cl (by simpa [nr] using h)]
  | .ref _, h => by simp [nr] at h
  | .non, _ => by unfold clD; rfl
  | .bl _, _ => by unfold clD; rfl
  | .int _, _ => by unfold clD; rfl
  | .str _, _ => by unfold clD; rfl
  | .gl _, _ => by unfold clD; rfl
theorem nrs_cl {n : Nat} {M : List O} : ∀ {ds : List D}, nrs ds = true → clDs n M ds = some ds
  | [], _ => by unfold clDs; rfl
  | d :: ds, h => by
    simp only [nrs, Bool.and_eq_true] at h
    unfold clDs
    rw [nr_cl h.1, nrs_cl h.2]
end
mutual
theorem nr_RB {n : Nat} : ∀ {d : D}, nr d = true → RB n d = true
  | .tup xs, h => by unfold RB; exact nrs_RB (by simpa [nr] using h)
  | .lst xs, h => by unfold RB; exact nrs_RB (by simpa [nr] using h)
  | .ins c fs xs, h => by unfold RB; exact nrs_RB (by simpa [nr] using h)
  | .dic ks xs, h => by unfold RB; exact nrs_RB (by simpa [nr] using h)
  | .slst xs, h => by unfold RB; exact nrs_RB (by simpa [nr] using h)
  | .ref _, h => by simp [nr] at h
  | .non, _ => by unfold RB; rfl
  | .bl _, _ => by unfold RB; rfl
  | .int _, _ => by unfold RB; rfl
  | .str _, _ => by unfold RB; rfl
  | .gl _, _ => by unfold RB; rfl
theorem nrs_RB {n : Nat} : ∀ {ds : List D}, nrs ds = true → RBs n ds = true
  | [], _ => by unfold RBs; rfl
  | d :: ds, h => by
    simp only [nrs, Bool.and_eq_true] at h
    unfold RBs
    rw [nr_RB h.1, nrs_RB h.2]; rfl
end
theorem nrs_map {α : Type} {f : α → D} (h : ∀ a, nr (f a) = true) : ∀ l : List α, nrs (l.map f) = true
  | [] => rfl
  | a :: l => by rw [List.map_cons]; unfold nrs; rw [h a, nrs_map h l]; rfl
theorem nr_nI (n : Nat) : nr (nI n) = true := rfl
theorem nr_tN (l : List Nat) : nr (tN l) = true := by unfold tN nr; exact nrs_map nr_nI l
theorem nr_tT (l : List (List Nat)) : nr (tT l) = true := by unfold tT nr; exact nrs_map nr_tN l
theorem xCompW_eq {step : D → List O → Res (Option D)} {f : D → Option D} {M : List O} : ∀ (ds acc : List D), (∀ d ∈ ds, step d M = .ok (f d) M) → xCompW step ds acc M = .ok (acc ++ ds.filterMap f) M
  | [], acc, _ => by unfold xCompW; simp
  | d :: ds, acc, h => by
    unfold xCompW
    rw [h d (by simp), bind_ok]
    cases e : f d with
    | some y =>
      show xCompW step ds (acc ++ [y]) M = _
      rw [xCompW_eq ds _ fun d' hd => h d' (by simp [hd])]
      simp [e]
    | none =>
      show xCompW step ds acc M = _
      rw [xCompW_eq ds _ fun d' hd => h d' (by simp [hd])]
      simp [e]
theorem xComp_eq {own : List Nat} {mi : XL} {g : XG} {tt : XB} {te : XM} {env : Env} {M : List O} {ds : List D} (f : D → Option D) (hi : mi env M = .ok ds M) (hl : ds.length ≤ lim) (h : ∀ d ∈ ds, xCompS (wipeE env own) g tt te d M = .ok (f d) M) :
    xComp own mi g tt te env M = .ok (ds.filterMap f) M := by
  unfold xComp
  rw [hi, bind_ok, if_pos hl, xCompW_eq ds [] h]
  rfl
theorem xComp_map {own : List Nat} {mi : XL} {g : XG} {te : XM} {env : Env} {M : List O} {ds : List D} (f : D → D) (hi : mi env M = .ok ds M) (hl : ds.length ≤ lim)
    (h : ∀ d ∈ ds, ∃ r, g d (wipeE env own) M = some r ∧ te r.1 r.2 = .ok (f d) M) : xComp own mi g xbYes te env M = .ok (ds.map f) M := by
  rw [xComp_eq (fun d => some (f d)) hi hl fun d hd => ?_]
  · simp
  · obtain ⟨r, h1, h2⟩ := h d hd
    unfold xCompS
    rw [h1, ofO_some, bind_ok]
    unfold xbYes
    rw [nx_ok, bind_ok, if_pos rfl, h2, nx_ok, bind_ok]
end Mi
end
section
set_option maxHeartbeats 4000000
namespace Mi
open PySem (Str)
theorem le_lim {n : Nat} (h : n ≤ 16777216) : n ≤ lim := h
section
variable {M L : List O} {k : Nat} {o : O}
theorem getL0 : (M ++ L)[M.length]? = L[0]? := by rw [List.getElem?_append_right (Nat.le_refl _), Nat.sub_self]
theorem getLk : (M ++ L)[M.length + k]? = L[k]? := by rw [List.getElem?_append_right (by omega), Nat.add_sub_cancel_left]
theorem setL0 : (M ++ L).set M.length o = M ++ L.set 0 o := by rw [List.set_append_right _ _ (Nat.le_refl _), Nat.sub_self]
theorem setLk : (M ++ L).set (M.length + k) o = M ++ L.set k o := by rw [List.set_append_right _ _ (by omega), Nat.add_sub_cancel_left]
end
@[simp] theorem rd_lst' {M : List O} {xs : List D} : rd M (.lst xs) = .lst xs := rfl
@[simp] theorem rd_tup' {M : List O} {xs : List D} : rd M (.tup xs) = .tup xs := rfl
@[simp] theorem rd_int' {M : List O} {xs : Int} : rd M (.int xs) = .int xs := rfl
@[simp] theorem rd_bl' {M : List O} {xs : Bool} : rd M (.bl xs) = .bl xs := rfl
@[simp] theorem rd_str' {M : List O} {xs : Str} : rd M (.str xs) = .str xs := rfl
@[simp] theorem rd_non' {M : List O} : rd M .non = .non := rfl
@[simp] theorem rd_ins' {M : List O} {c : Str} {fs : List Str} {xs : List D} : rd M (.ins c fs xs) = .ins c fs xs := rfl
@[simp] theorem rd_slst' {M : List O} {xs : List D} : rd M (.slst xs) = .slst xs := rfl
@[simp] theorem rd_dic' {M : List O} {ks : Ks} {xs : List D} : rd M (.dic ks xs) = .dic ks xs := rfl
@[simp] theorem rd_nI {M : List O} {n : Nat} : rd M (nI n) = nI n := rfl
@[simp] theorem rd_tN {M : List O} {n : List Nat} : rd M (tN n) = tN n := rfl
@[simp] theorem rd_tT {M : List O} {n : List (List Nat)} : rd M (tT n) = tT n := rfl
theorem fAdd_nI {a b : Nat} {M : List O} : fAdd (nI a) (nI b) M = some (nI (a + b)) := rfl
theorem fIdx_tN {l : List Nat} {k : Nat} {M : List O} (h : k < l.length) : fIdx (tN l) (nI k) M = some (nI (l.getD k 0)) := by
  show L2.atI (l.map nI) (k : Int) = _
  unfold L2.atI L2.ixN
  rw [if_pos (by omega), if_pos (by simpa using h)]
  simp [h]
theorem fIdx_tT {l : List (List Nat)} {k : Nat} {M : List O} (h : k < l.length) : fIdx (tT l) (nI k) M = some (tN (l.getD k [])) := by
  show L2.atI (l.map tN) (k : Int) = _
  unfold L2.atI L2.ixN
  rw [if_pos (by omega), if_pos (by simpa using h)]
  simp [h]
theorem fLen_tN {l : List Nat} {M : List O} : fLen (tN l) M = some (nI l.length) := by
  show some (D.int ((l.map nI).length : Int)) = _
  rw [List.length_map]
theorem fLen_tT {l : List (List Nat)} {M : List O} : fLen (tT l) M = some (nI l.length) := by
  show some (D.int ((l.map tN).length : Int)) = _
  rw [List.length_map]
theorem itD_tN {l : List Nat} : itD (tN l) = some (l.map nI) := rfl
theorem itD_tT {l : List (List Nat)} : itD (tT l) = some (l.map tN) := rfl
theorem fIdx_lN {l : List Nat} {k : Nat} {M : List O} (h : k < l.length) : fIdx (.lst (l.map nI)) (nI k) M = some (nI (l.getD k 0)) := by
  show L2.atI (l.map nI) (k : Int) = _
  unfold L2.atI L2.ixN
  rw [if_pos (by omega), if_pos (by simpa using h)]
  simp [h]
theorem fIdx_map {α : Type} {l : List α} {g : α → D} {k : Nat} {M : List O} (h : k < l.length) : fIdx (.lst (l.map g)) (nI k) M = some (g l[k]) := by
  show L2.atI (l.map g) (k : Int) = _
  unfold L2.atI L2.ixN
  rw [if_pos (by omega), if_pos (by simpa using h)]
  simp [h]
theorem fIdx_tmap {α : Type} {l : List α} {g : α → D} {k : Nat} {M : List O} (h : k < l.length) : fIdx (.tup (l.map g)) (nI k) M = some (g l[k]) := by
  show L2.atI (l.map g) (k : Int) = _
  unfold L2.atI L2.ixN
  rw [if_pos (by omega), if_pos (by simpa using h)]
  simp [h]
theorem fLe_int {a b : Int} {M : List O} : fLe (.int a) (.int b) M = some (.bl (decide (a ≤ b))) := rfl
theorem fLt_int {a b : Int} {M : List O} : fLt (.int a) (.int b) M = some (.bl (decide (a < b))) := rfl
theorem fGt_int {a b : Int} {M : List O} : fGt (.int a) (.int b) M = some (.bl (decide (b < a))) := rfl
theorem fGe_int {a b : Int} {M : List O} : fGe (.int a) (.int b) M = some (.bl (decide (b ≤ a))) := rfl
theorem fAdd_int {a b : Int} {M : List O} : fAdd (.int a) (.int b) M = some (.int (a + b)) := rfl
theorem fSub_int {a b : Int} {M : List O} : fSub (.int a) (.int b) M = some (.int (a - b)) := rfl
theorem fInt_int {a : Int} {M : List O} : fInt (.int a) M = some (.int a) := rfl
theorem fNeg_int {a : Int} {M : List O} : fNeg (.int a) M = some (.int (-a)) := rfl
theorem fMod_int {a b : Int} {M : List O} (h : b ≠ 0) : fMod (.int a) (.int b) M = some (.int (a.fmod b)) := by
  show (if b ≠ 0 then _ else _) = _
  rw [if_pos h]
theorem fDiv_int {a b : Int} {M : List O} (h : b ≠ 0 ∧ b.natAbs.log2 < 9000) : fDiv (.int a) (.int b) M = some (.int (a.fdiv b)) := by
  show (if b ≠ 0 ∧ _ then _ else _) = _
  rw [if_pos h]
theorem fMul_int {a b : Int} {M : List O} (h : mulOk a b = true) : fMul (.int a) (.int b) M = some (.int (a * b)) := by
  show (if mulOk a b then _ else _) = _
  rw [if_pos h]
theorem fEq_int {a b : Int} {M : List O} : fEq (.int a) (.int b) M = some (.bl (a == b)) := rfl
theorem fNe_int {a b : Int} {M : List O} : fNe (.int a) (.int b) M = some (.bl (!(a == b))) := rfl
theorem fIsT_tup {xs : List D} {M : List O} : fIsT .tup (.tup xs) M = some (.bl true) := rfl
theorem fIsT_tN {xs : List Nat} {M : List O} : fIsT .tup (tN xs) M = some (.bl true) := rfl
theorem fIsT_tT {xs : List (List Nat)} {M : List O} : fIsT .tup (tT xs) M = some (.bl true) := rfl
theorem fTup_lst {xs : List D} {M : List O} : fTup (.lst xs) M = some (.tup xs) := rfl
theorem fLen_lst {xs : List D} {M : List O} : fLen (.lst xs) M = some (.int xs.length) := rfl
theorem insAt_of {M : List O} {a : Nat} {c : Str} {fs : List Str} {xs : List D} (h : M[a]? = some (.ins c fs xs)) : insAt M a = some (c, fs, xs) := by unfold insAt; rw [h]
theorem fld_of {f : Str} {o v : XM} {env : Env} {M : List O} {d : D} {a : Nat} {c : Str} {fs : List Str} {xs : List D} (hv : v env M = .ok d M) (ho : o env M = .ok (.ref a) M) (h : M[a]? = some (.ins c fs xs)) (hc : ctB c f = true) (hl : fs.length < 1000) :
    xsFld f o v env M = .ok (.nx env) (M.set a (.ins c (putFs f d fs xs).1 (putFs f d fs xs).2)) := by
  unfold xsFld
  rw [hv, bind_ok, ho, bind_ok]
  simp only [toR, Option.bind_some, insAt_of h, Option.map_some]
  rw [if_pos ⟨hc, hl⟩]
section
variable {a b : XS} {c : XB} {env env' : Env} {M M' : List O} {r : Res Out} {d : D}
theorem seq_nx (h1 : a env M = .ok (.nx env') M') (h2 : b env' M' = r) : xsSeq a b env M = r := by
  unfold xsSeq; rw [h1]; exact h2
theorem seq_rt (h1 : a env M = .ok (.rt d) M') : xsSeq a b env M = .ok (.rt d) M' := by
  unfold xsSeq; rw [h1]; rfl
theorem seq_ex (h1 : a env M = .ex d M') : xsSeq a b env M = .ex d M' := by
  unfold xsSeq; rw [h1]; rfl
theorem if_t (h1 : c env M = .ok true M') (h2 : a env M' = r) : xsIf c a b env M = r := by
  unfold xsIf; rw [h1]; exact h2
theorem if_f (h1 : c env M = .ok false M') (h2 : b env M' = r) : xsIf c a b env M = r := by
  unfold xsIf; rw [h1]; exact h2
theorem seq_if_f (h1 : c env M = .ok false M') (h2 : b env M' = r) : xsSeq (xsIf c a xsNil) b env M = r := seq_nx (if_f h1 rfl) h2
theorem bNot_t {t : XB} (h : t env M = .ok true M') : xbNot t env M = .ok false M' := by unfold xbNot; rw [h]; rfl
theorem bNot_f {t : XB} (h : t env M = .ok false M') : xbNot t env M = .ok true M' := by unfold xbNot; rw [h]; rfl
theorem bOr_f {t u : XB} {M'' : List O} {q : Bool} (h : t env M = .ok false M') (k : u env M' = .ok q M'') : xbOr t u env M = .ok q M'' := by unfold xbOr; rw [h]; exact k
theorem T_bl {m : XM} {q : Bool} (h : m env M = .ok (.bl q) M') : xT m env M = .ok q M' := by unfold xT; rw [h]; rfl
theorem m1_of {f : D → List O → Option D} {m : XM} {x y : D} (h : m env M = .ok x M') (k : f x M' = some y) : x1 f m env M = .ok y M' := by unfold x1; rw [h, bind_ok, k]; rfl
theorem xF_f {l : XL} {xs : List D} (h : l env M = .ok xs M') : xF false l env M = .ok (.lst xs) M' := by unfold xF; rw [h]; rfl
theorem for_of {mi : XL} {g : XG} {tb : XS} {ds : List D} (h : mi env M = .ok ds M') (k : xForW g tb ds env M' = r) : xsFor mi g tb env M = r := by unfold xsFor; rw [h]; exact k
end
theorem fLenSet_tN {l : List Nat} {M : List O} (h : l.length ≤ 4000) : fLenSet (tN l) M = some (nI (dd l).length) := by
  have key : ∀ l : List Nat, (dd (l.map fun n : Nat => (n : Int))).length = (dd l).length := by
    intro l
    induction l with
    | nil => rfl
    | cons a l ih =>
      rw [List.map_cons]
      unfold dd
      have : ((a : Int) ∈ l.map fun n : Nat => (n : Int)) ↔ a ∈ l := by
        rw [List.mem_map]
        exact ⟨fun ⟨b, hb, e⟩ => by have : b = a := by omega
                                    exact this ▸ hb, fun h => ⟨a, h, rfl⟩⟩
      by_cases h : a ∈ l
      · rw [if_pos h, if_pos (this.mpr h), ih]
      · rw [if_neg h, if_neg fun q => h (this.mp q), List.length_cons, List.length_cons, ih]
  have e : intL (l.map nI) = some (l.map fun n : Nat => (n : Int)) := by
    clear h
    induction l with
    | nil => rfl
    | cons a l ih => rw [List.map_cons, intL, ih]; rfl
  show (intL (l.map nI)).bind _ = _
  rw [e, Option.bind_some, if_pos (by simpa using h), key]
theorem dd_map {α β : Type} [DecidableEq α] [DecidableEq β] {f : α → β} (hf : ∀ a b, f a = f b → a = b) : ∀ l : List α, (dd (l.map f)).length = (dd l).length
  | [] => rfl
  | a :: l => by
    rw [List.map_cons]
    unfold dd
    have : (f a ∈ l.map f) ↔ a ∈ l := by
      rw [List.mem_map]
      exact ⟨fun ⟨b, hb, e⟩ => hf _ _ e ▸ hb, fun h => ⟨a, h, rfl⟩⟩
    by_cases h : a ∈ l
    · rw [if_pos h, if_pos (this.mpr h), dd_map hf l]
    · rw [if_neg h, if_neg fun q => h (this.mp q), List.length_cons, List.length_cons, dd_map hf l]
theorem intL_nI : ∀ l : List Nat, intL (l.map nI) = some (l.map fun n : Nat => (n : Int))
  | [] => rfl
  | a :: l => by rw [List.map_cons, nI, intL, intL_nI l]; rfl
theorem toILs_tN : ∀ l : List (List Nat), toILs (l.map tN) = some (l.map fun k => k.map fun n : Nat => (n : Int))
  | [] => rfl
  | a :: l => by
    have h : toIL (tN a) = some (a.map fun n : Nat => (n : Int)) := intL_nI a
    rw [List.map_cons, toILs, toILs_tN l, h]; rfl
theorem cast_inj : ∀ a b : Nat, (a : Int) = (b : Int) → a = b := fun a b h => by omega
theorem map_cast_inj : ∀ a b : List Nat, (a.map fun n : Nat => (n : Int)) = (b.map fun n : Nat => (n : Int)) → a = b
  | [], [], _ => rfl
  | [], _ :: _, h => by simp at h
  | _ :: _, [], h => by simp at h
  | a :: l, b :: m, h => by
    rw [List.map_cons, List.map_cons, List.cons.injEq] at h
    rw [cast_inj _ _ h.1, map_cast_inj l m h.2]
theorem fLenSet_rows {l : List (List Nat)} {M : List O} (h1 : l ≠ []) (h2 : l.length < 64) : fLenSet (.lst (l.map tN)) M = some (nI (dd l).length) := by
  have e1 : intL (l.map tN) = none := by
    cases l with
    | nil => exact absurd rfl h1
    | cons a l => rfl
  show (match intL (l.map tN) with | some ns => _ | none => (toILs (l.map tN)).bind _) = _
  rw [e1, toILs_tN]
  dsimp only
  rw [Option.bind_some, if_pos (by simpa using h2), dd_map map_cast_inj]
theorem fLenSet_lN {l : List Nat} {M : List O} (h : l.length ≤ 4000) : fLenSet (.lst (l.map nI)) M = some (nI (dd l).length) := by
  show (match intL (l.map nI) with | some ns => _ | none => _) = _
  rw [intL_nI]
  dsimp only
  rw [if_pos (by simpa using h), dd_map cast_inj]
theorem fMod_nI {a b : Nat} {M : List O} (h : 0 < b) : fMod (nI a) (nI b) M = some (nI (a % b)) := by
  rw [fMod_int (by omega), Int.fmod_eq_emod_of_nonneg _ (by omega)]
  rfl
theorem fMod_2 {a : Nat} {M : List O} : fMod (.int (a : Int)) (.int 2) M = some (.int ((a % 2 : Nat) : Int)) := fMod_nI (b := 2) (by omega)
theorem mulOk_nat {a : Nat} {b : Int} (h : a < 16777216) : mulOk (a : Int) b = true := by
  unfold mulOk
  rw [Bool.or_eq_true, Bool.or_eq_true]
  exact .inl (.inl (decide_eq_true (Nat.lt_trans (show (a : Int).natAbs < 16777216 by omega) (by decide))))
def dictN (l : List Nat) : D := .dic (.k (l.map fun x : Nat => Sum.inl (x : Int))) (l.zipIdx.map fun p => nI p.2)
theorem prK_N : ∀ (l : List Nat) (s : Nat), prK ((l.zipIdx s).map fun p => .tup [nI p.1, nI p.2]) = some (l.map fun x : Nat => Sum.inl (x : Int), (l.zipIdx s).map fun p => nI p.2)
  | [], _ => rfl
  | a :: l, s => by
    rw [List.zipIdx_cons, List.map_cons, prK, prK_N l (s + 1)]
    rfl
theorem mrgD_nd {κ : Type} [DecidableEq κ] : ∀ (ks : List κ) (ds : List D) (l : List κ) (xs : List D), ks.length = ds.length → ks.Nodup → (∀ k ∈ ks, k ∉ l) → mrgD l xs ks ds = (l ++ ks, xs ++ ds)
  | [], [], l, xs, _, _, _ => by simp [mrgD]
  | [], _ :: _, _, _, h, _, _ => by simp at h
  | _ :: _, [], _, _, h, _, _ => by simp at h
  | k :: ks, d :: ds, l, xs, h, nd, hn => by
    rw [List.nodup_cons] at nd
    have e : putD l xs k d = (l ++ [k], xs ++ [d]) := by
      unfold putD
      rw [if_neg]
      intro q
      obtain ⟨x, hx, e⟩ := List.any_eq_true.mp q
      exact hn k (by simp) (of_decide_eq_true e ▸ hx)
    rw [mrgD, e]
    dsimp only
    rw [mrgD_nd ks ds _ _ (by simpa using h) nd.2 fun k' hk' hm => ?_]
    · simp
    · rcases List.mem_append.mp hm with hm | hm
      · exact hn k' (by simp [hk']) hm
      · simp at hm; subst hm; exact nd.1 hk'
theorem nd_cast {l : List Nat} (h : l.Nodup) : (l.map fun x : Nat => (Sum.inl (x : Int) : L2.Key)).Nodup := by
  refine List.pairwise_map.mpr (h.imp fun {a b} hab e => hab ?_)
  have := Sum.inl.inj e
  omega
theorem fDOf_N {l : List Nat} (h : l.Nodup) {M : List O} : fDOf (.lst (l.zipIdx.map fun p => .tup [nI p.1, nI p.2])) M = some (dictN l) := by
  show (match prK _ with | some (ks, ds) => _ | none => _) = _
  rw [prK_N l 0]
  dsimp only
  rw [mrgD_nd _ _ _ _ (by simp) (nd_cast h) (by simp)]
  simp [dictN]
theorem valD_N (x : Nat) : ∀ (l : List Nat) (s : Nat), x ∈ l → valD (l.map fun x : Nat => (Sum.inl (x : Int) : L2.Key)) ((l.zipIdx s).map fun p => nI p.2) (Sum.inl (x : Int)) = some (nI (s + l.idxOf x))
  | [], _, h => by cases h
  | a :: l, s, h => by
    rw [List.map_cons, List.zipIdx_cons, List.map_cons, valD, List.idxOf_cons]
    by_cases e : a = x
    · subst e
      rw [if_pos rfl]
      simp
    · have h' : x ∈ l := by
        rcases List.mem_cons.mp h with rfl | h
        · exact absurd rfl e
        · exact h
      rw [if_neg (fun q => e (by have := Sum.inl.inj q; omega)), valD_N x l (s + 1) h']
      have : (a == x) = false := by simpa using e
      rw [this]
      simp only [cond_false]
      congr 2
      omega
theorem fDGet_N {l : List Nat} {x : Nat} (h : x ∈ l) {M : List O} : fDGet (dictN l) (nI x) M = some (nI (l.idxOf x)) := by
  have := valD_N x l 0 h
  rw [Nat.zero_add] at this
  show (match getD' (.k (l.map fun x : Nat => Sum.inl (x : Int))) (l.zipIdx.map fun p => nI p.2) (nI x) with | some (some d) => some d | _ => none) = _
  have e : getD' (.k (l.map fun x : Nat => Sum.inl (x : Int))) (l.zipIdx.map fun p => nI p.2) (nI x) = some (some (nI (l.idxOf x))) := by
    show (toK (nI x)).map _ = _
    show some (valD _ _ _) = _
    rw [this]
  rw [e]
theorem mulOk_r {i j : Int} (h : j.natAbs < 16777216) : mulOk i j = true := by
  unfold mulOk
  rw [Bool.or_eq_true, Bool.or_eq_true]
  exact .inl (.inr (decide_eq_true (Nat.lt_trans h (by decide))))
theorem fIdx_ref0 {M : List O} {c : Nat} {x : D} {xs : List D} (h : M[c]? = some (.lst (x :: xs))) : fIdx (.ref c) (.int 0) M = some x := by
  unfold fIdx
  rw [rd_ref, h]
  show L2.atI (x :: xs) ((0 : Nat) : Int) = _
  unfold L2.atI L2.ixN
  rw [if_pos (by omega), if_pos (by simp; try omega)]
  simp
theorem fIdx_ref1 {M : List O} {c : Nat} {x y : D} {xs : List D} (h : M[c]? = some (.lst (x :: y :: xs))) : fIdx (.ref c) (.int 1) M = some y := by
  unfold fIdx
  rw [rd_ref, h]
  show L2.atI (x :: y :: xs) ((1 : Nat) : Int) = _
  unfold L2.atI L2.ixN
  rw [if_pos (by omega), if_pos (by simp; try omega)]
  simp
def nrO : O → Bool
  | .lst xs => nrs xs
  | .ins _ _ xs => nrs xs
  | .dic _ xs => nrs xs
  | .dead => true
theorem memOk_of {M : List O} (h : M.all nrO = true) : MemOk M := by
  unfold MemOk
  rw [List.all_eq_true] at h ⊢
  intro o ho
  have := h o ho
  cases o with
  | lst xs => unfold RBO; exact nrs_RB (by simpa [nrO] using this)
  | ins c fs xs => unfold RBO; exact nrs_RB (by simpa [nrO] using this)
  | dic ks xs => unfold RBO; exact nrs_RB (by simpa [nrO] using this)
  | dead => rfl
abbrev stO (s t : Int) : O := .lst [.int s, .int t]
/-- a state ahead of cells -/
def St (R M : List O) : Prop := ∃ s t : Int, 0 ≤ s ∧ 0 ≤ t ∧ M = stO s t :: R
theorem St.nr {R M : List O} (h : St R M) (hR : R.all nrO = true) : M.all nrO = true := by
  obtain ⟨s, t, _, _, rfl⟩ := h
  rw [List.all_cons, hR]; rfl
theorem St.ok {R M : List O} (h : St R M) (hR : R.all nrO = true) : MemOk M := memOk_of (h.nr hR)
theorem St.more {R M L : List O} (h : St R M) : St (R ++ L) (M ++ L) := by
  obtain ⟨s, t, h1, h2, rfl⟩ := h; exact ⟨s, t, h1, h2, rfl⟩
theorem St.len {R M : List O} (h : St R M) : M.length = R.length + 1 := by
  obtain ⟨s, t, _, _, rfl⟩ := h; rfl
theorem fn_rt {y : XS} {n np : Nat} {ds : List D} {M : List O} {d d' : D} {M' L : List O} (hl : ds.length = np) (h : y (startE n ds) M = .ok (.rt d) (M' ++ L)) (hlen : M'.length = M.length) (hM : MemOk M') (hc : clD M.length (M' ++ L) d = some d') : xFn y n np ds M = .ok d' M' := by
  unfold xFn
  rw [if_pos hl, h]
  show closeR M.length d (M' ++ L) = _
  unfold closeR
  rw [hc, ← hlen, List.take_left']
  · show (if M'.all (RBO M'.length) = true then _ else _) = _
    rw [if_pos (show M'.all (RBO M'.length) = true from hM)]
  · rfl
theorem fn_nx {y : XS} {n np : Nat} {ds : List D} {M : List O} {env : Env} {M' L : List O} (hl : ds.length = np) (h : y (startE n ds) M = .ok (.nx env) (M' ++ L)) (hlen : M'.length = M.length) (hM : MemOk M') : xFn y n np ds M = .ok .non M' := by
  unfold xFn
  rw [if_pos hl, h]
  show closeR M.length .non (M' ++ L) = _
  unfold closeR
  rw [show clD M.length (M' ++ L) .non = some .non from rfl, ← hlen, List.take_left']
  · show (if M'.all (RBO M'.length) = true then _ else _) = _
    rw [if_pos (show M'.all (RBO M'.length) = true from hM)]
  · rfl
/-- a def that hands back plain data -/
theorem fn_pl {y : XS} {n np : Nat} {ds : List D} {M : List O} {d : D} (hl : ds.length = np) (hM : MemOk M) (hd : nr d = true) (L : List O) (h : y (startE n ds) M = .ok (.rt d) (M ++ L)) : xFn y n np ds M = .ok d M :=
  fn_rt hl h rfl hM (nr_cl hd)
theorem fn_pl0 {y : XS} {n np : Nat} {ds : List D} {M : List O} {d : D} (hl : ds.length = np) (hM : MemOk M) (hd : nr d = true) (h : y (startE n ds) M = .ok (.rt d) M) : xFn y n np ds M = .ok d M :=
  fn_rt (L := []) hl (by rw [List.append_nil]; exact h) rfl hM (nr_cl hd)
theorem fn_nx0 {y : XS} {n np : Nat} {ds : List D} {M : List O} {env : Env} (hl : ds.length = np) (hM : MemOk M) (h : y (startE n ds) M = .ok (.nx env) M) : xFn y n np ds M = .ok .non M :=
  fn_nx (L := []) hl (by rw [List.append_nil]; exact h) rfl hM
/-- an exception handed on -/
theorem fn_ex {y : XS} {n np : Nat} {ds : List D} {M : List O} {d : D} (hl : ds.length = np) (hM : MemOk M) (hd : nr d = true) (L : List O) (h : y (startE n ds) M = .ex d (M ++ L)) : xFn y n np ds M = .ex d M := by
  unfold xFn
  rw [if_pos hl, h]
  dsimp only
  rw [closeR_ok hM (nr_cl hd)]
theorem startE_full {ds : List D} {n : Nat} (h : ds.length = n) : startE n ds = ds.map some := by unfold startE; simp [h]
section
variable {α σ : Type}
theorem comp1 {own : List Nat} {mi : XL} {i : Nat} {te : XM} {env : Env} {M : List O} (l : List α) (g F : α → D) (hi : mi env M = .ok (l.map g) M) (hl : l.length ≤ lim)
    (h : ∀ a ∈ l, te ((wipeE env own).set i (some (g a))) M = .ok (F a) M) : xComp own mi (xgN i) xbYes te env M = .ok (l.map F) M := by
  have key : ∀ (l : List α) (acc : List D), (∀ a ∈ l, te ((wipeE env own).set i (some (g a))) M = .ok (F a) M) → xCompW (xCompS (wipeE env own) (xgN i) xbYes te) (l.map g) acc M = .ok (acc ++ l.map F) M := by
    intro l
    induction l with
    | nil => intro acc _; simp [xCompW]
    | cons a l ih =>
      intro acc h
      rw [List.map_cons]
      unfold xCompW
      have e : xCompS (wipeE env own) (xgN i) xbYes te (g a) M = .ok (some (F a)) M := by
        unfold xCompS xgN xbYes
        rw [ofO_some, bind_ok, nx_ok, bind_ok, if_pos rfl, h a (by simp), nx_ok, bind_ok]
      rw [e, bind_ok]
      dsimp only
      rw [ih _ fun b hb => h b (by simp [hb])]
      simp
  unfold xComp
  rw [hi, bind_ok, if_pos (by simpa using hl), key l [] h]
  simp
theorem comp1f {own : List Nat} {mi : XL} {i : Nat} {tt : XB} {te : XM} {env : Env} {M : List O} (l : List α) (g F : α → D) (p : α → Bool) (hi : mi env M = .ok (l.map g) M) (hl : l.length ≤ lim)
    (hp : ∀ a ∈ l, tt ((wipeE env own).set i (some (g a))) M = .ok (p a) M)
    (h : ∀ a ∈ l, p a = true → te ((wipeE env own).set i (some (g a))) M = .ok (F a) M) : xComp own mi (xgN i) tt te env M = .ok ((l.filter p).map F) M := by
  have key : ∀ (l : List α) (acc : List D), (∀ a ∈ l, tt ((wipeE env own).set i (some (g a))) M = .ok (p a) M) → (∀ a ∈ l, p a = true → te ((wipeE env own).set i (some (g a))) M = .ok (F a) M) → xCompW (xCompS (wipeE env own) (xgN i) tt te) (l.map g) acc M = .ok (acc ++ (l.filter p).map F) M := by
    intro l
    induction l with
    | nil => intro acc _ _; simp [xCompW]
    | cons a l ih =>
      intro acc hp h
      rw [List.map_cons]
      unfold xCompW
      cases q : p a with
      | true =>
        have e : xCompS (wipeE env own) (xgN i) tt te (g a) M = .ok (some (F a)) M := by
          unfold xCompS xgN
          rw [ofO_some, bind_ok, hp a (by simp), nx_ok, bind_ok, if_pos q, h a (by simp) q, nx_ok, bind_ok]
        rw [e, bind_ok]
        dsimp only
        rw [ih _ (fun b hb => hp b (by simp [hb])) fun b hb => h b (by simp [hb])]
        simp [q]
      | false =>
        have e : xCompS (wipeE env own) (xgN i) tt te (g a) M = .ok none M := by
          unfold xCompS xgN
          rw [ofO_some, bind_ok, hp a (by simp), nx_ok, bind_ok, if_neg (by rw [q]; simp)]
        rw [e, bind_ok]
        dsimp only
        rw [ih _ (fun b hb => hp b (by simp [hb])) fun b hb => h b (by simp [hb])]
        simp [q]
  unfold xComp
  rw [hi, bind_ok, if_pos (by simpa using hl), key l [] hp h]
  simp
/-- any target -/
theorem compG {own : List Nat} {mi : XL} {xg : XG} {te : XM} {env : Env} {M : List O} (l : List α) (g F : α → D) (hi : mi env M = .ok (l.map g) M) (hl : l.length ≤ lim)
    (h : ∀ a ∈ l, ∃ r, xg (g a) (wipeE env own) M = some r ∧ te r.1 r.2 = .ok (F a) M) : xComp own mi xg xbYes te env M = .ok (l.map F) M := by
  have key : ∀ (l : List α) (acc : List D), (∀ a ∈ l, ∃ r, xg (g a) (wipeE env own) M = some r ∧ te r.1 r.2 = .ok (F a) M) → xCompW (xCompS (wipeE env own) xg xbYes te) (l.map g) acc M = .ok (acc ++ l.map F) M := by
    intro l
    induction l with
    | nil => intro acc _; simp [xCompW]
    | cons a l ih =>
      intro acc h
      rw [List.map_cons]
      unfold xCompW
      obtain ⟨r, h1, h2⟩ := h a (by simp)
      have e : xCompS (wipeE env own) xg xbYes te (g a) M = .ok (some (F a)) M := by
        unfold xCompS xbYes
        rw [h1, ofO_some, bind_ok, nx_ok, bind_ok, if_pos rfl, h2, nx_ok, bind_ok]
      rw [e, bind_ok]
      dsimp only
      rw [ih _ fun b hb => h b (by simp [hb])]
      simp
  unfold xComp
  rw [hi, bind_ok, if_pos (by simpa using hl), key l [] h]
  simp
theorem compGf {own : List Nat} {mi : XL} {xg : XG} {tt : XB} {te : XM} {env : Env} {M : List O} (l : List α) (g F : α → D) (p : α → Bool) (hi : mi env M = .ok (l.map g) M) (hl : l.length ≤ lim)
    (h : ∀ a ∈ l, ∃ r, xg (g a) (wipeE env own) M = some r ∧ tt r.1 r.2 = .ok (p a) M ∧ (p a = true → te r.1 M = .ok (F a) M)) : xComp own mi xg tt te env M = .ok ((l.filter p).map F) M := by
  have key : ∀ (l : List α) (acc : List D), (∀ a ∈ l, ∃ r, xg (g a) (wipeE env own) M = some r ∧ tt r.1 r.2 = .ok (p a) M ∧ (p a = true → te r.1 M = .ok (F a) M)) → xCompW (xCompS (wipeE env own) xg tt te) (l.map g) acc M = .ok (acc ++ (l.filter p).map F) M := by
    intro l
    induction l with
    | nil => intro acc _; simp [xCompW]
    | cons a l ih =>
      intro acc h
      rw [List.map_cons]
      unfold xCompW
      obtain ⟨r, h1, h2, h3⟩ := h a (by simp)
      cases q : p a with
      | true =>
        have e : xCompS (wipeE env own) xg tt te (g a) M = .ok (some (F a)) M := by
          unfold xCompS
          rw [h1, ofO_some, bind_ok, h2, nx_ok, bind_ok, if_pos q, h3 q, nx_ok, bind_ok]
        rw [e, bind_ok]
        dsimp only
        rw [ih _ fun b hb => h b (by simp [hb])]
        simp [q]
      | false =>
        have e : xCompS (wipeE env own) xg tt te (g a) M = .ok none M := by
          unfold xCompS
          rw [h1, ofO_some, bind_ok, h2, nx_ok, bind_ok, if_neg (by rw [q]; simp)]
        rw [e, bind_ok]
        dsimp only
        rw [ih _ fun b hb => h b (by simp [hb])]
        simp [q]
  unfold xComp
  rw [hi, bind_ok, if_pos (by simpa using hl), key l [] h]
  simp
/-- a comprehension that draws: R goes along with what is found -/
theorem compR {own : List Nat} {mi : XL} {xg : XG} {tt : XB} {te : XM} {env : Env} {M : List O} (l : List α) (g : α → D) (R : List D → List O → Prop) (hi : mi env M = .ok (l.map g) M) (hl : l.length ≤ lim) (h0 : R [] M)
    (h : ∀ a ∈ l, ∀ acc M, R acc M → ∃ y M', xCompS (wipeE env own) xg tt te (g a) M = .ok y M' ∧ R (acc ++ y.toList) M') : ∃ ds M', xComp own mi xg tt te env M = .ok ds M' ∧ R ds M' := by
  have key : ∀ (l : List α) (acc : List D) (M : List O), R acc M → (∀ a ∈ l, ∀ acc M, R acc M → ∃ y M', xCompS (wipeE env own) xg tt te (g a) M = .ok y M' ∧ R (acc ++ y.toList) M') → ∃ ds M', xCompW (xCompS (wipeE env own) xg tt te) (l.map g) acc M = .ok ds M' ∧ R ds M' := by
    intro l
    induction l with
    | nil => intro acc M hr _; exact ⟨acc, M, by simp [xCompW], hr⟩
    | cons a l ih =>
      intro acc M hr h
      rw [List.map_cons]
      unfold xCompW
      obtain ⟨y, M', h1, h2⟩ := h a (by simp) acc M hr
      rw [h1, bind_ok]
      cases y with
      | some d => exact ih _ _ h2 fun b hb => h b (by simp [hb])
      | none => exact ih _ _ (by simpa using h2) fun b hb => h b (by simp [hb])
  unfold xComp
  rw [hi, bind_ok, if_pos (by simpa using hl)]
  exact key l [] M h0 h
section
variable {α : Type}
/-- a comprehension that draws: R goes along with the place and what is found -/
theorem compI {own : List Nat} {mi : XL} {xg : XG} {tt : XB} {te : XM} {env : Env} {M : List O} (l : List α) (g : α → D) (R : Nat → List D → List O → Prop) (hi : mi env M = .ok (l.map g) M) (hl : l.length ≤ lim) (h0 : R 0 [] M)
    (h : ∀ (i : Nat) (hi : i < l.length) acc M, R i acc M → ∃ y M', xCompS (wipeE env own) xg tt te (g l[i]) M = .ok y M' ∧ R (i + 1) (acc ++ y.toList) M') : ∃ ds M', xComp own mi xg tt te env M = .ok ds M' ∧ R l.length ds M' := by
  have key : ∀ (t : List α) (k : Nat), l = l.take k ++ t → k + t.length = l.length → ∀ acc M, R k acc M → ∃ ds M', xCompW (xCompS (wipeE env own) xg tt te) (t.map g) acc M = .ok ds M' ∧ R l.length ds M' := by
    intro t
    induction t with
    | nil => intro k e hk acc M hr; exact ⟨acc, M, by simp [xCompW], by simpa [← hk] using hr⟩
    | cons a t ih =>
      intro k e hk acc M hr
      rw [List.length_cons] at hk
      have hkl : k < l.length := by omega
      have ha : l[k] = a := by
        have : l[k]? = some a := by
          rw [e, List.getElem?_append_right (by simp; omega)]
          simp [Nat.min_eq_left (Nat.le_of_lt hkl)]
        rw [List.getElem?_eq_getElem hkl] at this
        exact Option.some.inj this
      obtain ⟨y, M', h1, h2⟩ := h k hkl acc M hr
      rw [ha] at h1
      rw [List.map_cons]
      unfold xCompW
      rw [h1, bind_ok]
      have e' : l = l.take (k + 1) ++ t := by
        have : l.take (k + 1) = l.take k ++ [a] := by rw [List.take_succ, List.getElem?_eq_getElem hkl, ha]; rfl
        rw [this, List.append_assoc]; exact e
      cases y with
      | some d => exact ih (k + 1) e' (by omega) _ _ h2
      | none => exact ih (k + 1) e' (by omega) _ _ (by simpa using h2)
  unfold xComp
  rw [hi, bind_ok, if_pos (by simpa using hl)]
  exact key l 0 (by simp) (by simp) [] M h0
end
/-- a for: R goes along with the place -/
theorem for_rel {xg : XG} {tb : XS} (l : List α) (g : α → D) (R : Nat → Env → List O → Prop)
    (hs : ∀ (i : Nat) (hi : i < l.length) env M, R i env M → ∃ p, xg (g l[i]) env M = some p ∧ ∃ env' M', tb p.1 p.2 = .ok (.nx env') M' ∧ R (i + 1) env' M') {env : Env} {M : List O} (h0 : R 0 env M) :
    ∃ env' M', xForW xg tb (l.map g) env M = .ok (.nx env') M' ∧ R l.length env' M' := by
  have key : ∀ (t : List α) (k : Nat), l = l.take k ++ t → k + t.length = l.length → ∀ env M, R k env M → ∃ env' M', xForW xg tb (t.map g) env M = .ok (.nx env') M' ∧ R l.length env' M' := by
    intro t
    induction t with
    | nil => intro k e hk env M hr; exact ⟨env, M, rfl, by simpa [← hk] using hr⟩
    | cons a t ih =>
      intro k e hk env M hr
      rw [List.length_cons] at hk
      have hkl : k < l.length := by omega
      have ha : l[k] = a := by
        have : l[k]? = some a := by
          rw [e, List.getElem?_append_right (by simp; omega)]
          simp [Nat.min_eq_left (Nat.le_of_lt hkl)]
        rw [List.getElem?_eq_getElem hkl] at this
        exact Option.some.inj this
      obtain ⟨p, h1, env', M', h2, h3⟩ := hs k hkl env M hr
      rw [ha] at h1
      rw [List.map_cons]
      unfold xForW
      rw [h1]
      dsimp only
      rw [h2, bind_ok]
      refine ih (k + 1) ?_ (by omega) env' M' h3
      have : l.take (k + 1) = l.take k ++ [a] := by rw [List.take_succ, List.getElem?_eq_getElem hkl, ha]; rfl
      rw [this, List.append_assoc]; exact e
  exact key l 0 (by simp) (by simp) env M h0
/-- a for over a state -/
theorem for_fold {xg : XG} {tb : XS} (l : List α) (g : α → D) (R : σ → Env → List O → Prop) (f : σ → α → σ)
    (hs : ∀ a ∈ l, ∀ s env M, R s env M → ∃ p, xg (g a) env M = some p ∧ ∃ env' M', tb p.1 p.2 = .ok (.nx env') M' ∧ R (f s a) env' M') : ∀ {s : σ} {env : Env} {M : List O} (_ : R s env M),
    ∃ env' M', xForW xg tb (l.map g) env M = .ok (.nx env') M' ∧ R (l.foldl f s) env' M' := by
  induction l with
  | nil => intro s env M h0; exact ⟨env, M, rfl, h0⟩
  | cons a l ih =>
    intro s env M h0
    obtain ⟨p, h1, env', M', h2, h3⟩ := hs a (by simp) s env M h0
    rw [List.map_cons]
    unfold xForW
    rw [h1]
    dsimp only
    rw [h2, bind_ok]
    exact ih (fun b hb => hs b (by simp [hb])) h3
/-- a for that may end with a return: all pass -/
theorem for_all {xg : XG} {tb : XS} (l : List α) (g : α → D) (R : Env → List O → Prop)
    (hs : ∀ a ∈ l, ∀ env M, R env M → ∃ p, xg (g a) env M = some p ∧ ∃ env' M', tb p.1 p.2 = .ok (.nx env') M' ∧ R env' M') {env : Env} {M : List O} (h0 : R env M) :
    ∃ env' M', xForW xg tb (l.map g) env M = .ok (.nx env') M' ∧ R env' M' := for_fold l g (fun _ : Unit => R) (fun s _ => s) (fun a ha _ env M h => hs a ha env M h) (s := ()) h0
theorem wh_rel {xc : XB} {tb : XS} (R : σ → Env → List O → Prop) (c : σ → Bool) (μ : σ → Nat) (hc : ∀ s env M, R s env M → xc env M = .ok (c s) M)
    (hb : ∀ s env M, R s env M → c s = true → ∃ s' env' M', tb env M = .ok (.nx env') M' ∧ R s' env' M' ∧ μ s' < μ s) : ∀ (n : Nat) (s : σ) (env : Env) (M : List O), μ s < n → R s env M →
    ∃ s' env' M', xWh xc tb n env M = .ok (.nx env') M' ∧ R s' env' M' ∧ c s' = false
  | 0, s, env, M, h, _ => by omega
  | n + 1, s, env, M, h, r => by
    unfold xWh
    rw [hc s env M r, bind_ok]
    cases q : c s with
    | true =>
      obtain ⟨s', env', M', h1, h2, h3⟩ := hb s env M r q
      rw [if_pos rfl, h1, bind_ok]
      exact wh_rel R c μ hc hb n s' env' M' (by omega) h2
    | false =>
      rw [if_neg (by simp)]
      exact ⟨s, env, M, rfl, r, q⟩
theorem wh_rel' {xc : XB} {tb : XS} (R : σ → Env → List O → Prop) (c : σ → Bool) (μ : σ → Nat) (hc : ∀ s env M, R s env M → xc env M = .ok (c s) M)
    (hb : ∀ s env M, R s env M → c s = true → ∃ s' env' M', tb env M = .ok (.nx env') M' ∧ R s' env' M' ∧ μ s' < μ s) {s : σ} {env : Env} {M : List O} (h : μ s < 100000) (r : R s env M) :
    ∃ s' env' M', xsWhile xc tb env M = .ok (.nx env') M' ∧ R s' env' M' ∧ c s' = false := wh_rel R c μ hc hb fuel s env M h r
end
theorem enD_eq {α : Type} (g : α → D) : ∀ (n : Nat) (l : List α), enD n (l.map g) = (l.zipIdx n).map fun p => .tup [.int (p.2 : Int), g p.1]
  | _, [] => rfl
  | n, a :: l => by rw [List.map_cons, List.zipIdx_cons, List.map_cons, enD, enD_eq g (n + 1) l]
theorem zipD_eq {α β : Type} (g : α → D) (h : β → D) : ∀ (l : List α) (m : List β), zipD (l.map g) (m.map h) = (l.zip m).map fun p => .tup [g p.1, h p.2]
  | [], _ => by simp [zipD]
  | a :: l, [] => by simp [zipD]
  | a :: l, b :: m => by rw [List.map_cons, List.map_cons, List.zip_cons_cons, List.map_cons, zipD, zipD_eq g h l m]
theorem rgD_eq (n : Nat) : rgD 0 n = (List.range n).map nI := by
  unfold rgD
  refine List.map_congr_left fun i _ => ?_
  show D.int (0 + (i : Int)) = _
  rw [Int.zero_add]
theorem rgOk_nat {n : Nat} (h : n ≤ 16777216) : rgOk 0 (n : Int) = true := by
  unfold rgOk
  simp only [Bool.and_eq_true, decide_eq_true_eq]
  have : (0 : Int) ≤ n ∧ (n : Int) ≤ 16777216 := by omega
  exact ⟨⟨⟨⟨by decide, by decide⟩, Int.le_trans (by decide) this.1⟩, Int.lt_of_le_of_lt this.2 (by decide)⟩, by rw [Int.sub_zero, Int.toNat_natCast]; exact Nat.le_trans h (by decide)⟩
theorem lRg_eq (n : Nat) : lRg 0 (n : Int) = (List.range n).map nI := by unfold lRg; rw [show ((n : Int) - 0).toNat = n by omega]; exact rgD_eq n
theorem bls_map {α : Type} (f : α → Bool) : ∀ l : List α, bls (l.map fun a => .bl (f a)) = some (l.map f)
  | [] => rfl
  | a :: l => by rw [List.map_cons, bls, bls_map f l]; rfl
theorem fAll_map {α : Type} (f : α → Bool) (l : List α) {M : List O} : fAll (.lst (l.map fun a => .bl (f a))) M = some (.bl (l.all f)) := by
  show (bls _).map _ = _
  rw [bls_map]
  simp [List.all_map]
theorem fAny_map {α : Type} (f : α → Bool) (l : List α) {M : List O} : fAny (.lst (l.map fun a => .bl (f a))) M = some (.bl (l.any f)) := by
  show (bls _).map _ = _
  rw [bls_map]
  simp [List.any_map]
theorem fAll_yes {α : Type} {l : List α} {M : List O} : fAll (.lst (l.map fun _ => .bl true)) M = some (.bl true) := by
  rw [fAll_map (fun _ => true) l]; simp
theorem fIdx_tT0 {l : List (List Nat)} {M : List O} (h : 0 < l.length) : fIdx (tT l) (.int 0) M = some (tN (l.getD 0 [])) := fIdx_tT (k := 0) h
mutual
/-- ints and nests of them -/
def nb : Nat → D → Bool
  | _, .int _ => true
  | _, .non => true
  | n + 1, .tup xs => nbs n xs
  | n + 1, .lst xs => nbs n xs
  | _, _ => false
def nbs : Nat → List D → Bool
  | _, [] => true
  | n, d :: ds => nb n d && nbs n ds
end
mutual
theorem nb_py : ∀ (n : Nat) (d : D), nb n d = true → ∃ p, toPy d = some p ∧ p.canLay0 = true ∧ p.depth ≤ n
  | n, .int i, _ => ⟨_, rfl, rfl, Nat.zero_le _⟩
  | n, .non, _ => ⟨_, rfl, rfl, Nat.zero_le _⟩
  | n + 1, .tup xs, h => by
    obtain ⟨ps, h1, h2, h3⟩ := nbs_py n xs (by simpa [nb] using h)
    exact ⟨.tuple ps, by unfold toPy; rw [h1], by simpa [PySem.PyData.canLay0] using h2, by simpa [PySem.PyData.depth] using h3⟩
  | n + 1, .lst xs, h => by
    obtain ⟨ps, h1, h2, h3⟩ := nbs_py n xs (by simpa [nb] using h)
    exact ⟨.list ps, by unfold toPy; rw [h1], by simpa [PySem.PyData.canLay0] using h2, by simpa [PySem.PyData.depth] using h3⟩
  | 0, .tup _, h => by simp [nb] at h
  | 0, .lst _, h => by simp [nb] at h
  | n, .bl _, h => by simp [nb] at h
  | n, .str _, h => by simp [nb] at h
  | n, .ins _ _ _, h => by simp [nb] at h
  | n, .dic _ _, h => by simp [nb] at h
  | n, .slst _, h => by simp [nb] at h
  | n, .ref _, h => by simp [nb] at h
  | n, .gl _, h => by simp [nb] at h
theorem nbs_py : ∀ (n : Nat) (ds : List D), nbs n ds = true → ∃ p, toPys ds = some p ∧ PySem.PyData.canLayAll0 p = true ∧ PySem.PyData.depthAll p ≤ n
  | n, [], _ => ⟨[], rfl, rfl, Nat.zero_le _⟩
  | n, d :: ds, h => by
    have h' : nb n d = true ∧ nbs n ds = true := by simpa [nbs] using h
    obtain ⟨p, a1, a2, a3⟩ := nb_py n d h'.1
    obtain ⟨ps, b1, b2, b3⟩ := nbs_py n ds h'.2
    exact ⟨p :: ps, by unfold toPys; rw [a1, b1], by simp [PySem.PyData.canLayAll0, a2, b2], by simp [PySem.PyData.depthAll]; omega⟩
end
mutual
theorem nb_eqv : ∀ (n : Nat) (a b : D) (p q : PySem.PyData), nb n a = true → nb n b = true → toPy a = some p → toPy b = some q → (PySem.PyData.eqv p q = true ↔ a = b)
  | n, a, b, p, q, ha, hb, h1, h2 => by
    cases a with
    | int i =>
      cases h1
      cases b with
      | int j => cases h2; simp [PySem.PyData.eqv]
      | non => cases h2; simp [PySem.PyData.eqv]
      | tup xs => unfold toPy at h2; split at h2 <;> simp at h2; subst h2; simp [PySem.PyData.eqv]
      | lst xs => unfold toPy at h2; split at h2 <;> simp at h2; subst h2; simp [PySem.PyData.eqv]
      | _ => simp [nb] at hb
    | non =>
      cases h1
      cases b with
      | int j => cases h2; simp [PySem.PyData.eqv]
      | non => cases h2; simp [PySem.PyData.eqv]
      | tup xs => unfold toPy at h2; split at h2 <;> simp at h2; subst h2; simp [PySem.PyData.eqv]
      | lst xs => unfold toPy at h2; split at h2 <;> simp at h2; subst h2; simp [PySem.PyData.eqv]
      | _ => simp [nb] at hb
    | tup xs =>
      cases n with
      | zero => simp [nb] at ha
      | succ n =>
      unfold toPy at h1; split at h1 <;> simp at h1; subst h1
      rename_i ps e1
      cases b with
      | int j => cases h2; simp [PySem.PyData.eqv]
      | non => cases h2; simp [PySem.PyData.eqv]
      | tup ys =>
        unfold toPy at h2; split at h2 <;> simp at h2; subst h2
        rename_i qs e2
        simp only [PySem.PyData.eqv, D.tup.injEq]
        exact nbs_eqv n xs ys ps qs (by simpa [nb] using ha) (by simpa [nb] using hb) e1 e2
      | lst ys => unfold toPy at h2; split at h2 <;> simp at h2; subst h2; simp [PySem.PyData.eqv]
      | _ => simp [nb] at hb
    | lst xs =>
      cases n with
      | zero => simp [nb] at ha
      | succ n =>
      unfold toPy at h1; split at h1 <;> simp at h1; subst h1
      rename_i ps e1
      cases b with
      | int j => cases h2; simp [PySem.PyData.eqv]
      | non => cases h2; simp [PySem.PyData.eqv]
      | lst ys =>
        unfold toPy at h2; split at h2 <;> simp at h2; subst h2
        rename_i qs e2
        simp only [PySem.PyData.eqv, D.lst.injEq]
        exact nbs_eqv n xs ys ps qs (by simpa [nb] using ha) (by simpa [nb] using hb) e1 e2
      | tup ys => unfold toPy at h2; split at h2 <;> simp at h2; subst h2; simp [PySem.PyData.eqv]
      | _ => simp [nb] at hb
    | _ => simp [nb] at ha
  termination_by n a => (n, sizeOf a)
theorem nbs_eqv : ∀ (n : Nat) (as bs : List D) (ps qs : List PySem.PyData), nbs n as = true → nbs n bs = true → toPys as = some ps → toPys bs = some qs → (PySem.PyData.eqvAll ps qs = true ↔ as = bs)
  | n, [], [], ps, qs, _, _, h1, h2 => by cases h1; cases h2; simp [PySem.PyData.eqvAll]
  | n, [], b :: bs, ps, qs, _, hb, h1, h2 => by
    cases h1; unfold toPys at h2; split at h2 <;> simp at h2; subst h2; simp [PySem.PyData.eqvAll]
  | n, a :: as, [], ps, qs, _, _, h1, h2 => by
    cases h2; unfold toPys at h1; split at h1 <;> simp at h1; subst h1; simp [PySem.PyData.eqvAll]
  | n, a :: as, b :: bs, ps, qs, ha, hb, h1, h2 => by
    have ha' : nb n a = true ∧ nbs n as = true := by simpa [nbs] using ha
    have hb' : nb n b = true ∧ nbs n bs = true := by simpa [nbs] using hb
    unfold toPys at h1 h2
    split at h1 <;> simp at h1
    rename_i p pt e1 e2
    split at h2 <;> simp at h2
    rename_i q qt e3 e4
    subst h1 h2
    simp only [PySem.PyData.eqvAll, Bool.and_eq_true, List.cons.injEq]
    rw [nb_eqv n a b p q ha'.1 hb'.1 e1 e3, nbs_eqv n as bs pt qt ha'.2 hb'.2 e2 e4]
  termination_by n as => (n, sizeOf as)
end
section
open Classical
theorem eqD_nb {a b : D} (ha : nb 64 a = true) (hb : nb 64 b = true) : eqD a b = some (decide (a = b)) := by
  obtain ⟨p, p1, p2, p3⟩ := nb_py 64 a ha
  obtain ⟨q, q1, q2, q3⟩ := nb_py 64 b hb
  unfold eqD
  rw [p1, q1]
  dsimp only
  rw [if_pos (by simp [PySem.SeqAt.shaped, p2, p3, q2, q3])]
  congr 1
  have := nb_eqv 64 a b p q ha hb p1 q1
  by_cases h : a = b
  · rw [decide_eq_true h]; exact this.mpr h
  · rw [decide_eq_false h]; exact Bool.eq_false_iff.mpr fun e => h (this.mp e)
theorem fEq_nb {a b : D} {M : List O} (ha : nb 64 a = true) (hb : nb 64 b = true) : fEq a b M = some (.bl (decide (a = b))) := by
  have ea : rd M a = a := by cases a <;> first | rfl | (simp [nb] at ha)
  have eb : rd M b = b := by cases b <;> first | rfl | (simp [nb] at hb)
  unfold fEq
  rw [ea, eb, eqD_nb ha hb]; rfl
theorem fNe_nb {a b : D} {M : List O} (ha : nb 64 a = true) (hb : nb 64 b = true) : fNe a b M = some (.bl (!decide (a = b))) := by
  have ea : rd M a = a := by cases a <;> first | rfl | (simp [nb] at ha)
  have eb : rd M b = b := by cases b <;> first | rfl | (simp [nb] at hb)
  unfold fNe
  rw [ea, eb, eqD_nb ha hb]; rfl
end
theorem nbs_map {α : Type} {f : α → D} {n : Nat} : ∀ {l : List α}, (∀ a ∈ l, nb n (f a) = true) → nbs n (l.map f) = true
  | [], _ => by simp [nbs]
  | a :: l, h => by rw [List.map_cons]; unfold nbs; rw [h a (by simp), nbs_map fun b hb => h b (by simp [hb])]; rfl
theorem nb_nI (n k : Nat) : nb n (nI k) = true := by unfold nI nb; rfl
theorem nb_tN (n : Nat) (l : List Nat) : nb (n + 1) (tN l) = true := by unfold tN nb; exact nbs_map fun a _ => nb_nI n a
theorem nb_tT (n : Nat) (l : List (List Nat)) : nb (n + 2) (tT l) = true := by unfold tT nb; exact nbs_map fun a _ => nb_tN n a
theorem nI_inj {a b : Nat} : nI a = nI b ↔ a = b := by unfold nI; rw [D.int.injEq]; omega
theorem map_inj {α : Type} {f : α → D} (h : ∀ a b, f a = f b ↔ a = b) : ∀ {l m : List α}, l.map f = m.map f ↔ l = m
  | [], [] => by simp
  | [], _ :: _ => by simp
  | _ :: _, [] => by simp
  | a :: l, b :: m => by rw [List.map_cons, List.map_cons, List.cons.injEq, List.cons.injEq, h, map_inj h]
theorem tN_inj {a b : List Nat} : tN a = tN b ↔ a = b := by unfold tN; rw [D.tup.injEq]; exact map_inj fun _ _ => nI_inj
theorem tT_inj {a b : List (List Nat)} : tT a = tT b ↔ a = b := by unfold tT; rw [D.tup.injEq]; exact map_inj fun _ _ => tN_inj
theorem fEq_nI {a b : Nat} {M : List O} : fEq (nI a) (nI b) M = some (.bl (decide (a = b))) := by
  rw [fEq_nb (nb_nI _ _) (nb_nI _ _)]; simp only [nI_inj]
theorem fNe_nI {a b : Nat} {M : List O} : fNe (nI a) (nI b) M = some (.bl (!decide (a = b))) := by
  rw [fNe_nb (nb_nI _ _) (nb_nI _ _)]; simp only [nI_inj]
theorem fEq_tN {a b : List Nat} {M : List O} : fEq (tN a) (tN b) M = some (.bl (decide (a = b))) := by
  rw [fEq_nb (nb_tN _ _) (nb_tN _ _)]; simp only [tN_inj]
theorem fNe_tN {a b : List Nat} {M : List O} : fNe (tN a) (tN b) M = some (.bl (!decide (a = b))) := by
  rw [fNe_nb (nb_tN _ _) (nb_tN _ _)]; simp only [tN_inj]
theorem fEq_tT {a b : List (List Nat)} {M : List O} : fEq (tT a) (tT b) M = some (.bl (decide (a = b))) := by
  rw [fEq_nb (nb_tT _ _) (nb_tT _ _)]; simp only [tT_inj]
theorem toPys_nI : ∀ l : List Nat, toPys (l.map nI) = some (l.map fun n : Nat => .int (n : Int))
  | [] => rfl
  | a :: l => by rw [List.map_cons, toPys, toPys_nI l]; rfl
theorem leD_nI (a b : Nat) : leD (nI a) (nI b) = decide (a ≤ b) := by
  show PySem.W.dataLe false py (nI a) (nI b) = _
  show (!PyProof.Rows.lexLt PyProof.Rows.itemOrd [.inl (b : Int)] [.inl (a : Int)]) = _
  by_cases h : a ≤ b
  · simp [PyProof.Rows.lexLt, PyProof.Rows.itemLt, h]
    try omega
  · simp [PyProof.Rows.lexLt, PyProof.Rows.itemLt, h]
    try omega
theorem srtOk_nI (l : List Nat) (h : l.length ≤ lim) : srtOk (l.map nI) = true := by
  unfold srtOk
  simp only [Bool.and_eq_true, Bool.or_eq_true, List.all_eq_true, List.mem_map, decide_eq_true_eq, List.length_map]
  refine ⟨⟨⟨?_, ?_⟩, .inr ?_⟩, h⟩
  · rintro _ ⟨n, _, rfl⟩; exact ⟨rfl, by show (0 : Nat) ≤ 100; omega⟩
  · rintro _ ⟨n, _, rfl⟩ _ ⟨k, _, rfl⟩; rfl
  · rintro _ ⟨n, _, rfl⟩; rfl
theorem fSrtF_nI (l : List Nat) (M : List O) (h : l.length ≤ lim) : fSrtF (.lst (l.map nI)) M = some ((l.mergeSort fun a b => decide (a ≤ b)).map nI) := by
  show (if srtOk (l.map nI) = true then some (msF leD (l.map nI).length (l.map nI)) else none) = _
  rw [if_pos (srtOk_nI l h), msF_eq leD _ _ (Nat.le_refl _)]
  congr 1
  exact (List.map_mergeSort fun a _ b _ => (leD_nI a b).symm).symm
theorem fIn_nI (neg : Bool) (l : List Nat) (x : Nat) (M : List O) : fIn neg (nI x) (.lst (l.map nI)) M = some (.bl (if neg then !l.contains x else l.contains x)) := by
  have key : ((l.map nI).any fun z => eqF z (nI x)) = l.contains x := by
    rw [List.any_map, List.contains_eq_any_beq]
    congr 1
    funext z
    show L2.eqV (.int z) (.int x) = _
    show ((z : Int) == (x : Int)) = _
    by_cases h : x = z
    · subst h; simp
    · have h' : ¬ z = x := fun e => h e.symm
      have h2 : ¬ (z : Int) = (x : Int) := by omega
      rw [show (x == z) = false by simpa using h, show ((z : Int) == (x : Int)) = false by simpa using h2]
  unfold fIn
  rw [rd_lst']
  show (if flD (nI x) = true ∧ (l.map nI).all flD = true then _ else _) = _
  rw [if_pos ⟨rfl, by simp [flD, nI]⟩, key]
def Ends {α : Type} (r : Res α) (P : α → List O → Prop) : Prop := ∃ a M', r = .ok a M' ∧ P a M'
theorem Ends.eq {α : Type} {r : Res α} {a : α} {M : List O} (h : Ends r fun b M' => b = a ∧ M' = M) : r = .ok a M := by
  obtain ⟨b, M', h, rfl, rfl⟩ := h; exact h
theorem Ends.mono {α : Type} {r : Res α} {P Q : α → List O → Prop} (h : Ends r P) (k : ∀ a M, P a M → Q a M) : Ends r Q := by
  obtain ⟨b, M', h, p⟩ := h; exact ⟨b, M', h, k _ _ p⟩
theorem Ends.ok {α : Type} {a : α} {M : List O} {P : α → List O → Prop} (h : P a M) : Ends (.ok a M) P := ⟨a, M, rfl, h⟩
theorem Ends.of {α : Type} {r : Res α} {a : α} {M : List O} {P : α → List O → Prop} (e : r = .ok a M) (h : P a M) : Ends r P := ⟨a, M, e, h⟩
section
variable {α σ : Type} {a b : XS} {c : XB} {env env' : Env} {M M' : List O} {d : D} {P : Out → List O → Prop}
theorem E_nx (h1 : a env M = .ok (.nx env') M') (h2 : Ends (b env' M') P) : Ends (xsSeq a b env M) P := by rw [seq_nx h1 rfl]; exact h2
theorem E_rt (h1 : a env M = .ok (.rt d) M') (h2 : P (.rt d) M') : Ends (xsSeq a b env M) P := by rw [seq_rt h1]; exact .ok h2
theorem E_if_f (h1 : c env M = .ok false M') (h2 : Ends (b env M') P) : Ends (xsSeq (xsIf c a xsNil) b env M) P := by rw [seq_if_f h1 rfl]; exact h2
theorem E_if_t (h1 : c env M = .ok true M') (h2 : Ends (a env M') P) : Ends (xsIf c a b env M) P := by rw [if_t h1 rfl]; exact h2
theorem E_if_e (h1 : c env M = .ok false M') (h2 : Ends (b env M') P) : Ends (xsIf c a b env M) P := by rw [if_f h1 rfl]; exact h2
theorem E_ift (h1 : c env M = .ok true M') (h2 : Ends (a env M') fun o M => ∃ d, o = .rt d ∧ P o M) : Ends (xsSeq (xsIf c a xsNil) b env M) P := by
  obtain ⟨o, M2, h, d, rfl, hp⟩ := h2
  rw [seq_rt (if_t h1 h)]
  exact .ok hp
theorem E_ret {m : XM} (h1 : m env M = .ok d M') (h2 : P (.rt d) M') : Ends (xsRet m env M) P := ⟨.rt d, M', by unfold xsRet; rw [h1]; rfl, h2⟩
/-- the first of two, whatever it ends with -/
theorem E_seq (h : Ends (a env M) fun o M' => ∃ env', o = .nx env' ∧ Ends (b env' M') P) : Ends (xsSeq a b env M) P := by
  obtain ⟨o, M', h1, env', rfl, h2⟩ := h
  exact E_nx h1 h2
theorem E_for {mi : XL} {g : XG} {tb : XS} (l : List α) (gd : α → D) (R : Nat → Env → List O → Prop) (hi : mi env M = .ok (l.map gd) M') (h0 : R 0 env M')
    (hs : ∀ (i : Nat) (hi : i < l.length) env M, R i env M → ∃ p, g (gd l[i]) env M = some p ∧ Ends (tb p.1 p.2) fun o M' => ∃ env', o = .nx env' ∧ R (i + 1) env' M')
    (hk : ∀ env M, R l.length env M → P (.nx env) M) : Ends (xsFor mi g tb env M) P := by
  obtain ⟨env', M'', h1, h2⟩ := for_rel (xg := g) (tb := tb) l gd R (fun i hi env M r => by
    obtain ⟨p, h1, o, M', h2, env', rfl, h3⟩ := hs i hi env M r
    exact ⟨p, h1, env', M', h2, h3⟩) h0
  exact ⟨_, M'', for_of hi h1, hk _ _ h2⟩
theorem E_fold {mi : XL} {g : XG} {tb : XS} (l : List α) (gd : α → D) (R : σ → Env → List O → Prop) (f : σ → α → σ) {s : σ} (hi : mi env M = .ok (l.map gd) M') (h0 : R s env M')
    (hs : ∀ a ∈ l, ∀ s env M, R s env M → ∃ p, g (gd a) env M = some p ∧ Ends (tb p.1 p.2) fun o M' => ∃ env', o = .nx env' ∧ R (f s a) env' M')
    (hk : ∀ env M, R (l.foldl f s) env M → P (.nx env) M) : Ends (xsFor mi g tb env M) P := by
  obtain ⟨env', M'', h1, h2⟩ := for_fold (xg := g) (tb := tb) l gd R f (fun a ha s env M r => by
    obtain ⟨p, h1, o, M', h2, env', rfl, h3⟩ := hs a ha s env M r
    exact ⟨p, h1, env', M', h2, h3⟩) h0
  exact ⟨_, M'', for_of hi h1, hk _ _ h2⟩
theorem E_wh {xc : XB} {tb : XS} (R : σ → Env → List O → Prop) (c : σ → Bool) (μ : σ → Nat) (s : σ) (h : μ s < 100000) (h0 : R s env M) (hc : ∀ s env M, R s env M → xc env M = .ok (c s) M)
    (hb : ∀ s env M, R s env M → c s = true → Ends (tb env M) fun o M' => ∃ s' env', o = .nx env' ∧ R s' env' M' ∧ μ s' < μ s)
    (hk : ∀ s env M, R s env M → c s = false → P (.nx env) M) : Ends (xsWhile xc tb env M) P := by
  obtain ⟨s', env', M', h1, h2, h3⟩ := wh_rel' (xc := xc) (tb := tb) R c μ hc (fun s env M r q => by
    obtain ⟨o, M', h2, s', env', rfl, h3, h4⟩ := hb s env M r q
    exact ⟨s', env', M', h2, h3, h4⟩) h h0
  exact ⟨_, M', h1, hk _ _ _ h2 h3⟩
end
section
variable {y : XS} {n np : Nat} {ds : List D} {M : List O} {d : D}
theorem fn_E (hl : ds.length = np) (hM : MemOk M) (hd : nr d = true) (h : Ends (y (startE n ds) M) fun o M1 => o = .rt d ∧ ∃ L, M1 = M ++ L) : xFn y n np ds M = .ok d M := by
  obtain ⟨o, M1, h, rfl, L, rfl⟩ := h
  exact fn_pl hl hM hd L h
/-- a new list is handed out -/
theorem fn_EL {xs : List D} (hl : ds.length = np) (hM : MemOk M) (hd : nrs xs = true) (h : Ends (y (startE n ds) M) fun o M1 => ∃ a L, o = .rt (.ref (M.length + a)) ∧ M1 = M ++ L ∧ L[a]? = some (.lst xs)) : xFn y n np ds M = .ok (.lst xs) M := by
  obtain ⟨o, M1, h, a, L, rfl, rfl, e⟩ := h
  refine fn_rt hl h rfl hM ?_
  unfold clD
  rw [if_neg (by omega), getLk, e]
  unfold clO
  dsimp only
  rw [if_pos (nrs_RB hd)]
/-- the memory below may change -/
theorem fn_ES {P : D → List O → Prop} (hl : ds.length = np) (h : Ends (y (startE n ds) M) fun o M1 => ∃ M' L d, o = .rt d ∧ M1 = M' ++ L ∧ M'.length = M.length ∧ MemOk M' ∧ nr d = true ∧ P d M') : Ends (xFn y n np ds M) P := by
  obtain ⟨o, M1, h, M', L, d, rfl, rfl, e1, e2, e3, e4⟩ := h
  exact ⟨d, M', fn_rt hl h e1 e2 (nr_cl e3), e4⟩
end
theorem iEnTu_of {α : Type} {m : XM} {env : Env} {M M' : List O} {l : List α} {g : α → D} (h : m env M = .ok (.tup (l.map g)) M') : xiEnTu m env M = .ok (l.zipIdx.map fun p => .tup [.int (p.2 : Int), g p.1]) M' := by
  unfold xiEnTu
  rw [h, bind_ok]
  simp only [toTup, Option.map_some, enD_eq]
  rfl
theorem iEnL_of {α : Type} {m : XM} {env : Env} {M M' : List O} {l : List α} {g : α → D} (h : m env M = .ok (.lst (l.map g)) M') : xiEnL m env M = .ok (l.zipIdx.map fun p => .tup [.int (p.2 : Int), g p.1]) M' := by
  unfold xiEnL
  rw [h, bind_ok]
  simp only [toLst, Option.map_some, enD_eq]
  rfl
theorem iOf_tup {m : XM} {env : Env} {M M' : List O} {xs : List D} (h : m env M = .ok (.tup xs) M') : xiOf m env M = .ok xs M' := by unfold xiOf; rw [h]; rfl
theorem iOf_lst {m : XM} {env : Env} {M M' : List O} {xs : List D} (h : m env M = .ok (.lst xs) M') : xiOf m env M = .ok xs M' := by unfold xiOf; rw [h]; rfl
theorem iRg1_of {m : XM} {env : Env} {M M' : List O} {n : Nat} (h : m env M = .ok (.int n) M') (hn : n ≤ 16777216) : xiRg1 m env M = .ok ((List.range n).map nI) M' := by
  unfold xiRg1
  rw [h, bind_ok]
  show (Res.ok (n : Int) M').bind _ = _
  rw [bind_ok, if_pos (by omega), Int.toNat_natCast, rgD_eq]
theorem cutD_from {α : Type} {l : List α} {g : α → D} {k : Nat} : cutD (l.map g) (some (k : Int)) none = (l.drop k).map g := by
  unfold cutD
  rw [HT.sIx_nat]
  show ((l.map g).drop _).take ((l.map g).length - _) = _
  rw [List.take_of_length_le (by rw [List.length_drop]; omega)]
  by_cases q : k ≤ (l.map g).length
  · rw [Nat.min_eq_left q, List.map_drop]
  · rw [Nat.min_eq_right (by omega), List.drop_of_length_le (Nat.le_refl _), List.drop_of_length_le (by simp at q; omega)]; rfl
theorem cutD_to {α : Type} {l : List α} {g : α → D} {k : Nat} : cutD (l.map g) none (some (k : Int)) = (l.take k).map g := by
  unfold cutD
  rw [HT.sIx_nat]
  show ((l.map g).drop 0).take (_ - 0) = _
  rw [List.drop_zero, Nat.sub_zero, List.map_take, List.length_map]
  by_cases q : k ≤ l.length
  · rw [Nat.min_eq_left q]
  · rw [Nat.min_eq_right (by omega), List.take_of_length_le (by simp), List.take_of_length_le (by simp; omega)]
theorem rd_refl {M : List O} {c : Nat} {xs : List D} (h : M[c]? = some (.lst xs)) : rd M (.ref c) = .lst xs := by rw [rd_ref, h]; rfl
theorem fIdx_ref {α : Type} {M : List O} {c k : Nat} {l : List α} {g : α → D} (h : M[c]? = some (.lst (l.map g))) (hk : k < l.length) : fIdx (.ref c) (nI k) M = some (g l[k]) := by
  unfold fIdx
  rw [rd_refl h]
  show L2.atI (l.map g) (k : Int) = _
  unfold L2.atI L2.ixN
  rw [if_pos (by omega), if_pos (by simpa using hk)]
  simp [hk]
theorem fIdx_refN {M : List O} {c k : Nat} {l : List Nat} (h : M[c]? = some (.lst (l.map nI))) (hk : k < l.length) : fIdx (.ref c) (nI k) M = some (nI (l.getD k 0)) := by
  rw [fIdx_ref h hk, List.getD_eq_getElem?_getD, List.getElem?_eq_getElem hk]; rfl
theorem fLen_ref {M : List O} {c : Nat} {xs : List D} (h : M[c]? = some (.lst xs)) : fLen (.ref c) M = some (.int xs.length) := by
  unfold fLen; rw [rd_refl h]
theorem fTup_ref {M : List O} {c : Nat} {xs : List D} (h : M[c]? = some (.lst xs)) : fTup (.ref c) M = some (.tup xs) := by
  unfold fTup; rw [rd_refl h]
theorem lstAt_of {M : List O} {c : Nat} {xs : List D} (h : M[c]? = some (.lst xs)) : lstAt M c = some xs := by unfold lstAt; rw [h]
theorem ixN_of {n k : Nat} (h : k < n) : L2.ixN n (k : Int) = some k := by
  unfold L2.ixN
  rw [if_pos (by omega), if_pos (by omega), Int.toNat_natCast]
theorem gSub_of {o i : XM} {d : D} {env : Env} {M : List O} {c k : Nat} {xs : List D} (ho : o env M = .ok (.ref c) M) (hi : i env M = .ok (nI k) M) (hc : M[c]? = some (.lst xs)) (hk : k < xs.length) : xgSub o i d env M = some (env, M.set c (.lst (xs.set k d))) := by
  unfold xgSub
  rw [ho]
  simp only [okO, Option.bind_some, toR, hi, toI, lstAt_of hc, ixN_of hk]
theorem asgSub {a o i : XM} {d : D} {env : Env} {M : List O} {c k : Nat} {xs : List D} (ha : a env M = .ok d M) (ho : o env M = .ok (.ref c) M) (hi : i env M = .ok (nI k) M) (hc : M[c]? = some (.lst xs)) (hk : k < xs.length) : xsAsg a (xgSub o i) env M = .ok (.nx env) (M.set c (.lst (xs.set k d))) := by
  unfold xsAsg
  rw [ha, bind_ok, gSub_of ho hi hc hk]
theorem app_of {o : XM} {a : XL} {env : Env} {M : List O} {c : Nat} {xs : List D} {d : D} (ho : o env M = .ok (.ref c) M) (ha : a env M = .ok [d] M) (hc : M[c]? = some (.lst xs)) (hl : xs.length < lim) : xMut fApp o a env M = .ok .non (M.set c (.lst (xs ++ [d]))) := by
  unfold xMut
  rw [ho, bind_ok]
  simp only [toR, Option.bind_some, lstAt_of hc, Option.map_some, ofO_some, bind_ok, ha, fApp, if_pos hl]
theorem exprApp {o : XM} {a : XL} {env : Env} {M : List O} {c : Nat} {xs : List D} {d : D} (ho : o env M = .ok (.ref c) M) (ha : a env M = .ok [d] M) (hc : M[c]? = some (.lst xs)) (hl : xs.length < lim) : xsExpr (xMut fApp o a) env M = .ok (.nx env) (M.set c (.lst (xs ++ [d]))) := by
  unfold xsExpr
  rw [app_of ho ha hc hl]; rfl
theorem rng63 {k : Nat} (h : k < 16777216) : -(2 ^ 63) ≤ (k : Int) ∧ (k : Int) < 2 ^ 63 := by
  constructor
  · have : (0 : Int) ≤ k := by omega
    exact Int.le_trans (by decide) this
  · have : (k : Int) < 16777216 := by omega
    exact Int.lt_trans this (by decide)
theorem fPopAt_of {xs : List D} {k : Nat} {d : D} {M : List O} (hk : xs[k]? = some d) (hl : k < 16777216) : fPopAt xs [nI k] M = some (d, xs.eraseIdx k) := by
  have hkl : k < xs.length := (List.getElem?_eq_some_iff.mp hk).1
  have e : fPopAt xs [nI k] M = if -(2 ^ 63) ≤ (k : Int) ∧ (k : Int) < 2 ^ 63 then match L2.ixN xs.length k with
    | some k => match xs[k]? with
      | some d => some (d, xs.eraseIdx k)
      | none => none
    | none => none
    else none := rfl
  rw [e, if_pos (rng63 hl), ixN_of hkl]
  dsimp only
  rw [hk]
theorem mut_of {f : List D → List D → List O → Option (D × List D)} {o : XM} {a : XL} {env : Env} {M M' : List O} {c : Nat} {xs0 xs ds : List D} {r : D × List D} (ho : o env M = .ok (.ref c) M) (h0 : M[c]? = some (.lst xs0)) (ha : a env M = .ok ds M') (hc : M'[c]? = some (.lst xs)) (hf : f xs ds M' = some r) : xMut f o a env M = .ok r.1 (M'.set c (.lst r.2)) := by
  unfold xMut
  rw [ho, bind_ok]
  simp only [toR, Option.bind_some, lstAt_of h0, lstAt_of hc, Option.map_some, ofO_some, bind_ok, ha, hf]
theorem popAt_of {o : XM} {a : XL} {env : Env} {M M' : List O} {c k : Nat} {xs : List D} {d : D} (ho : o env M = .ok (.ref c) M) (h0 : M[c]? = some (.lst xs)) (ha : a env M = .ok [nI k] M') (hc : M'[c]? = some (.lst xs)) (hk : xs[k]? = some d) (hl : k < 16777216) : xMut fPopAt o a env M = .ok d (M'.set c (.lst (xs.eraseIdx k))) :=
  mut_of ho h0 ha hc (fPopAt_of hk hl)
theorem flat_one {α : Type} (d : α) : ∀ n : Nat, (List.replicate n [d]).flatten = List.replicate n d
  | 0 => rfl
  | n + 1 => by rw [List.replicate_succ, List.flatten_cons, flat_one d n, List.replicate_succ]; rfl
theorem rng63' {k : Nat} (h : k ≤ 16777216) : -(2 ^ 63) ≤ (k : Int) ∧ (k : Int) < 2 ^ 63 := by
  constructor
  · have : (0 : Int) ≤ k := by omega
    exact Int.le_trans (by decide) this
  · have : (k : Int) < 16777217 := by omega
    exact Int.lt_trans this (by decide)
theorem fRepL_one {d : D} {n : Nat} {M : List O} (h : n ≤ 16777216) : fRepL (.lst [d]) (.int (n : Int)) M = some (List.replicate n d) := by
  have e : fRepL (.lst [d]) (.int (n : Int)) M = if -(2 ^ 63) ≤ (n : Int) ∧ (n : Int) < 2 ^ 63 ∧ [d].length * (n : Int).toNat ≤ lim then some (List.replicate (n : Int).toNat [d]).flatten else none := rfl
  rw [e, if_pos ⟨(rng63' h).1, (rng63' h).2, by rw [Int.toNat_natCast, List.length_singleton, Nat.one_mul]; exact h⟩, Int.toNat_natCast, flat_one]
/-- truth values by places -/
def bs (m : Nat) (b : Nat → Bool) : List D := (List.range m).map fun z => .bl (b z)
theorem bs_len {m : Nat} {b : Nat → Bool} : (bs m b).length = m := by simp [bs]
theorem bs_set {m y : Nat} {b : Nat → Bool} : (bs m b).set y (.bl true) = bs m fun z => b z || z == y := by
  unfold bs
  apply List.ext_getElem?
  intro i
  by_cases h : i = y
  · subst h
    by_cases hl : i < m
    · rw [List.getElem?_set_self (by simpa using hl)]; simp [hl]
    · rw [List.getElem?_eq_none (by simp; omega), List.getElem?_eq_none (by simp; omega)]
  · rw [List.getElem?_set_ne (Ne.symm h)]
    by_cases hl : i < m
    · simp [hl, h]
    · rw [List.getElem?_eq_none (by simp; omega), List.getElem?_eq_none (by simp; omega)]
theorem bs_rep {m : Nat} : List.replicate m (D.bl false) = bs m fun _ => false := by
  unfold bs
  apply List.ext_getElem?
  intro i
  by_cases hl : i < m
  · simp [hl]
  · rw [List.getElem?_eq_none (by simp; omega), List.getElem?_eq_none (by simp; omega)]
theorem bs_congr {m : Nat} {b c : Nat → Bool} (h : ∀ z, z < m → b z = c z) : bs m b = bs m c := List.map_congr_left fun z hz => by rw [h z (List.mem_range.mp hz)]
theorem fIdx_bs {M : List O} {c k m : Nat} {b : Nat → Bool} (h : M[c]? = some (.lst (bs m b))) (hk : k < m) : fIdx (.ref c) (nI k) M = some (.bl (b k)) := by
  rw [fIdx_ref h (by simpa using hk)]
  simp
theorem set_last {G : List O} {a b : O} : (G ++ [a]).set G.length b = G ++ [b] := by
  rw [List.set_append_right _ _ (Nat.le_refl _), Nat.sub_self]; rfl
theorem get_last {G : List O} {a : O} : (G ++ [a])[G.length]? = some a := by simp
theorem St.get {R L M : List O} (h : St (R ++ L) M) (k : Nat) : M[R.length + 1 + k]? = L[k]? := by
  obtain ⟨s, t, _, _, rfl⟩ := h
  rw [show R.length + 1 + k = (R.length + k) + 1 by omega, List.getElem?_cons_succ, getLk]
theorem St.get0 {R L M : List O} (h : St (R ++ L) M) : M[R.length + 1]? = L[0]? := h.get 0
theorem St.set {R L M : List O} (h : St (R ++ L) M) (k : Nat) (o : O) : St (R ++ L.set k o) (M.set (R.length + 1 + k) o) := by
  obtain ⟨s, t, h1, h2, rfl⟩ := h
  refine ⟨s, t, h1, h2, ?_⟩
  rw [show R.length + 1 + k = (R.length + k) + 1 by omega, List.set_cons_succ, setLk]
theorem St.set0 {R L M : List O} (h : St (R ++ L) M) (o : O) : St (R ++ L.set 0 o) (M.set (R.length + 1) o) := h.set 0 o
/-- what is below the cells of a frame -/
theorem St.split {R L M : List O} (h : St (R ++ L) M) : ∃ M', M = M' ++ L ∧ St R M' := by
  obtain ⟨s, t, h1, h2, rfl⟩ := h
  exact ⟨stO s t :: R, rfl, s, t, h1, h2, rfl⟩
theorem St.snoc {R M : List O} (h : St R M) (o : O) : St (R ++ [o]) (M ++ [o]) := h.more
/-- the end of a def that drew -/
theorem fn_St {y : XS} {n np : Nat} {ds : List D} {R M : List O} {P : D → Prop} (hS : St R M) (hR : R.all nrO = true) (hl : ds.length = np) (h : Ends (y (startE n ds) M) fun o M1 => ∃ L d, o = .rt d ∧ St (R ++ L) M1 ∧ nr d = true ∧ P d) : ∃ d M', xFn y n np ds M = .ok d M' ∧ P d ∧ St R M' := by
  obtain ⟨o, M1, h, L, d, rfl, hS', hd, hp⟩ := h
  obtain ⟨M', rfl, hS2⟩ := hS'.split
  exact ⟨d, M', fn_rt hl h (by rw [hS.len, hS2.len]) (hS2.ok hR) (nr_cl hd), hp, hS2⟩
theorem fAdd_tup {xs ys : List D} {M : List O} (h : xs.length + ys.length ≤ 16777216) : fAdd (.tup xs) (.tup ys) M = some (.tup (xs ++ ys)) := by
  show (if xs.length + ys.length ≤ lim then _ else _) = _
  rw [if_pos h]
theorem fMod_N {a : Int} {b c : Nat} {M : List O} (hb : 0 < b) (h : a.emod b = (c : Int)) : fMod (.int a) (nI b) M = some (nI c) := by
  rw [fMod_int (by omega), Int.fmod_eq_emod_of_nonneg _ (by omega)]
  exact congrArg (fun z => some (D.int z)) h
theorem intL_map {α : Type} (f : α → Int) : ∀ l : List α, intL (l.map fun a => .int (f a)) = some (l.map f)
  | [] => rfl
  | a :: l => by rw [List.map_cons, intL, intL_map f l]; rfl
theorem fSum_map {α : Type} (f : α → Int) (l : List α) {M : List O} : fSum (.lst (l.map fun a => .int (f a))) M = some (.int (l.map f).sum) := by
  show (intL _).map _ = _
  rw [intL_map]; rfl
theorem fIdx_lst0 {x : D} {xs : List D} {M : List O} : fIdx (.lst (x :: xs)) (.int 0) M = some x := by
  show L2.atI (x :: xs) ((0 : Nat) : Int) = _
  unfold L2.atI L2.ixN
  rw [if_pos (by omega), if_pos (by simp; try omega)]
  simp
theorem fCatL_N {l k : List Nat} {ds : List D} {M : List O} (e : ds = k.map nI) (h : l.length + k.length ≤ 16777216) : fCatL (.lst (l.map nI)) (.lst ds) M = some ((l ++ k).map nI) := by
  subst e
  unfold fCatL
  dsimp only [rd_lst']
  rw [if_pos (by rw [List.length_map, List.length_map]; exact h), List.map_append]
end Mi
end
section
end
local macro_rules
  | `(tactic| simp!) => `(tactic| simp only [Mi.startE, List.map_cons, List.map_nil, List.replicate_succ, List.replicate_zero, List.length_cons, List.length_nil, List.cons_append, List.nil_append, List.append_nil, Nat.reduceAdd, Nat.reduceSub, Nat.zero_add, Mi.lim, Nat.reduceLeDiff, Nat.zero_le, Mi.xVar, Mi.xCon, Mi.x1, Mi.x2, Mi.xl1, Mi.xl2, Mi.xT, Mi.xChain, Mi.xbAnd, Mi.xbOr, Mi.xbNot, Mi.xAnd, Mi.xOr, Mi.xNot, Mi.xIf, Mi.xNil, Mi.xCons, Mi.xTup, Mi.xDisp, Mi.xF, Mi.xoNo, Mi.xoAt, Mi.xCut, Mi.xlCut, Mi.xi1, Mi.xi2, Mi.xCall, Mi.xsNil, Mi.xsSeq, Mi.xsExpr, Mi.xsRet, Mi.xsRetN, Mi.xsIf, Mi.xsAsg, Mi.xsPar, Mi.xsPar3, Mi.xgN, Mi.xsRaise, Mi.bind_ok, Mi.bind_ex, Mi.ofO_some, Mi.nx_ok, List.getElem?_cons_zero, List.getElem?_cons_succ, List.set_cons_zero, List.set_cons_succ, if_true, if_false, Bool.false_eq_true, reduceIte, Bool.not_true, Bool.not_false, Mi.toB, Mi.toI, Option.bind_some, Option.map_some])
  | `(tactic| simp! [$ls,*]) => `(tactic| simp only [Mi.startE, List.map_cons, List.map_nil, List.replicate_succ, List.replicate_zero, List.length_cons, List.length_nil, List.cons_append, List.nil_append, List.append_nil, Nat.reduceAdd, Nat.reduceSub, Nat.zero_add, Mi.lim, Nat.reduceLeDiff, Nat.zero_le, Mi.xVar, Mi.xCon, Mi.x1, Mi.x2, Mi.xl1, Mi.xl2, Mi.xT, Mi.xChain, Mi.xbAnd, Mi.xbOr, Mi.xbNot, Mi.xAnd, Mi.xOr, Mi.xNot, Mi.xIf, Mi.xNil, Mi.xCons, Mi.xTup, Mi.xDisp, Mi.xF, Mi.xoNo, Mi.xoAt, Mi.xCut, Mi.xlCut, Mi.xi1, Mi.xi2, Mi.xCall, Mi.xsNil, Mi.xsSeq, Mi.xsExpr, Mi.xsRet, Mi.xsRetN, Mi.xsIf, Mi.xsAsg, Mi.xsPar, Mi.xsPar3, Mi.xgN, Mi.xsRaise, Mi.bind_ok, Mi.bind_ex, Mi.ofO_some, Mi.nx_ok, List.getElem?_cons_zero, List.getElem?_cons_succ, List.set_cons_zero, List.set_cons_succ, if_true, if_false, Bool.false_eq_true, reduceIte, Bool.not_true, Bool.not_false, Mi.toB, Mi.toI, Option.bind_some, Option.map_some, $ls,*])
section
set_option maxHeartbeats 4000000
namespace Pl
def sel (o : List Nat) (x : Nat) : Nat := o.getD x 0
def ins (l : List Nat) (y : Nat) : List Nat := if y ∈ l then l else l ++ [y]
def row (fl : List (List Nat)) (l : List Nat) (x : Nat) : List Nat := fl.foldl (fun l o => ins l (sel o x)) l
def bfs (fl : List (List Nat)) : Nat → List Nat → Nat → List Nat
  | 0, l, _ => l
  | k + 1, l, a => if a < l.length then bfs fl k (row fl l (l.getD a 0)) (a + 1) else l
inductive Reach (fl : List (List Nat)) : Nat → Nat → Prop
  | refl (x : Nat) : Reach fl x x
  | step {x y : Nat} {o : List Nat} (h : o ∈ fl) (r : Reach fl x y) : Reach fl x (sel o y)
theorem ins_mem {l : List Nat} {y z : Nat} : z ∈ ins l y ↔ z ∈ l ∨ z = y := by
  unfold ins
  split
  · rename_i h
    exact ⟨.inl, fun q => q.elim id fun e => e ▸ h⟩
  · simp
theorem ins_nd {l : List Nat} {y : Nat} (h : l.Nodup) : (ins l y).Nodup := by
  unfold ins
  split
  · exact h
  · rename_i hn
    rw [List.nodup_append]
    exact ⟨h, by simp, fun a ha b hb e => by simp at hb; subst hb e; exact hn ha⟩
theorem ins_pre (l : List Nat) (y : Nat) : ∃ t, ins l y = l ++ t := by
  unfold ins
  split
  · exact ⟨[], by simp⟩
  · exact ⟨[y], rfl⟩
theorem row_nil (l : List Nat) (x : Nat) : row [] l x = l := rfl
theorem row_cons (o : List Nat) (fl : List (List Nat)) (l : List Nat) (x : Nat) : row (o :: fl) l x = row fl (ins l (sel o x)) x := rfl
theorem row_mem : ∀ {fl : List (List Nat)} {l : List Nat} {x z : Nat}, z ∈ row fl l x ↔ z ∈ l ∨ ∃ o ∈ fl, z = sel o x
  | [], l, x, z => by rw [row_nil]; simp
  | o :: fl, l, x, z => by
    rw [row_cons, row_mem, ins_mem]
    constructor
    · rintro ((h | h) | ⟨p, hp, h⟩)
      · exact .inl h
      · exact .inr ⟨o, by simp, h⟩
      · exact .inr ⟨p, by simp [hp], h⟩
    · rintro (h | ⟨p, hp, h⟩)
      · exact .inl (.inl h)
      · rcases List.mem_cons.mp hp with rfl | hp
        · exact .inl (.inr h)
        · exact .inr ⟨p, hp, h⟩
theorem row_nd : ∀ {fl : List (List Nat)} {l : List Nat} {x : Nat}, l.Nodup → (row fl l x).Nodup
  | [], l, x, h => h
  | o :: fl, l, x, h => by rw [row_cons]; exact row_nd (ins_nd h)
theorem row_pre : ∀ (fl : List (List Nat)) (l : List Nat) (x : Nat), ∃ t, row fl l x = l ++ t
  | [], l, x => ⟨[], by simp [row_nil]⟩
  | o :: fl, l, x => by
    obtain ⟨t, h⟩ := ins_pre l (sel o x)
    obtain ⟨u, k⟩ := row_pre fl (ins l (sel o x)) x
    exact ⟨t ++ u, by rw [row_cons, k, h, List.append_assoc]⟩
/-- flips of m flags lead to flags -/
def Into (fl : List (List Nat)) (m : Nat) : Prop := ∀ o ∈ fl, ∀ x, x < m → sel o x < m
structure BInv (fl : List (List Nat)) (m x : Nat) (l : List Nat) (a : Nat) : Prop where
  nd : l.Nodup
  rc : ∀ z ∈ l, Reach fl x z
  me : x ∈ l
  lt : ∀ z ∈ l, z < m
  le : a ≤ l.length
  cl : ∀ j, j < a → ∀ o ∈ fl, sel o (l.getD j 0) ∈ l
theorem nd_sub : ∀ {l m : List Nat}, l.Nodup → (∀ x ∈ l, x ∈ m) → l.length ≤ m.length
  | [], _, _, _ => Nat.zero_le _
  | y :: r, m, h, k => by
    rw [List.nodup_cons] at h
    have hy : y ∈ m := k y (by simp)
    have := nd_sub (l := r) (m := m.erase y) h.2 fun x hx => by
      have hne : x ≠ y := by rintro rfl; exact h.1 hx
      exact (List.mem_erase_of_ne hne).mpr (k x (by simp [hx]))
    rw [List.length_erase_of_mem hy] at this
    have := List.length_pos_of_mem hy
    rw [List.length_cons]; omega
theorem nd_len {l : List Nat} {m : Nat} (h : l.Nodup) (k : ∀ z ∈ l, z < m) : l.length ≤ m := by
  have := nd_sub (m := List.range m) h fun z hz => List.mem_range.mpr (k z hz)
  simpa using this
theorem getD_mem {l : List Nat} {j : Nat} (h : j < l.length) : l.getD j 0 ∈ l := by
  rw [List.getD_eq_getElem?_getD, List.getElem?_eq_getElem h]
  exact List.getElem_mem h
theorem getD_app {l t : List Nat} {j : Nat} (h : j < l.length) : (l ++ t).getD j 0 = l.getD j 0 := by
  rw [List.getD_eq_getElem?_getD, List.getD_eq_getElem?_getD, List.getElem?_append_left h]
theorem BInv.next {fl : List (List Nat)} {m x : Nat} {l : List Nat} {a : Nat} (I : Into fl m) (B : BInv fl m x l a) (h : a < l.length) : BInv fl m x (row fl l (l.getD a 0)) (a + 1) := by
  obtain ⟨t, e⟩ := row_pre fl l (l.getD a 0)
  have ha := getD_mem h
  refine ⟨row_nd B.nd, fun z hz => ?_, row_mem.mpr (.inl B.me), fun z hz => ?_, ?_, fun j hj o ho => ?_⟩
  · rcases row_mem.mp hz with hz | ⟨o, ho, rfl⟩
    · exact B.rc z hz
    · exact .step ho (B.rc _ ha)
  · rcases row_mem.mp hz with hz | ⟨o, ho, rfl⟩
    · exact B.lt z hz
    · exact I o ho _ (B.lt _ ha)
  · rw [e, List.length_append]; omega
  · by_cases hja : j < a
    · rw [e, getD_app (by omega), ← e]
      exact row_mem.mpr (.inl (B.cl j hja o ho))
    · have : j = a := by omega
      subst this
      rw [e, getD_app h, ← e]
      exact row_mem.mpr (.inr ⟨o, ho, rfl⟩)
theorem bfs_ok {fl : List (List Nat)} {m x : Nat} (I : Into fl m) : ∀ (k : Nat) (l : List Nat) (a : Nat), BInv fl m x l a → m < k + a → BInv fl m x (bfs fl k l a) (bfs fl k l a).length
  | 0, l, a, B, h => by have := nd_len B.nd B.lt; have := B.le; omega
  | k + 1, l, a, B, h => by
    unfold bfs
    split
    · rename_i hl
      exact bfs_ok I k _ _ (B.next I hl) (by omega)
    · rename_i hl
      have : a = l.length := by have := B.le; omega
      rw [← this]; exact B
def line (fl : List (List Nat)) (m x : Nat) : List Nat := bfs fl (m + 1) [x] 0
theorem line_ok {fl : List (List Nat)} {m x : Nat} (I : Into fl m) (hx : x < m) : BInv fl m x (line fl m x) (line fl m x).length :=
  bfs_ok I (m + 1) [x] 0 ⟨by simp, fun z hz => by simp at hz; subst hz; exact .refl z, by simp, fun z hz => by simp at hz; subst hz; exact hx, Nat.zero_le _, fun j hj => absurd hj (Nat.not_lt_zero j)⟩ (by omega)
theorem line_cl {fl : List (List Nat)} {m x : Nat} (I : Into fl m) (hx : x < m) {z : Nat} (hz : z ∈ line fl m x) {o : List Nat} (ho : o ∈ fl) : sel o z ∈ line fl m x := by
  have B := line_ok I hx
  obtain ⟨j, hj, e⟩ := List.mem_iff_getElem.mp hz
  have := B.cl j hj o ho
  rw [List.getD_eq_getElem?_getD, List.getElem?_eq_getElem hj] at this
  rw [← e]; exact this
theorem line_mem {fl : List (List Nat)} {m x : Nat} (I : Into fl m) (hx : x < m) {z : Nat} : z ∈ line fl m x ↔ Reach fl x z := by
  refine ⟨(line_ok I hx).rc z, fun r => ?_⟩
  have go : ∀ {a b : Nat}, Reach fl a b → a ∈ line fl m x → b ∈ line fl m x := fun {a b} r => by
    induction r with
    | refl => exact id
    | step ho _ ih => exact fun h => line_cl I hx (ih h) ho
  exact go r (line_ok I hx).me
/-- flips: each leads back -/
def Inv (fl : List (List Nat)) (m : Nat) : Prop := ∀ o ∈ fl, ∀ x, x < m → sel o (sel o x) = x
theorem Reach.trans {fl : List (List Nat)} {x y z : Nat} (h : Reach fl x y) (k : Reach fl y z) : Reach fl x z := by
  induction k with
  | refl => exact h
  | step ho _ ih => exact .step ho ih
theorem Reach.lt {fl : List (List Nat)} {m x y : Nat} (I : Into fl m) (h : Reach fl x y) (hx : x < m) : y < m := by
  induction h with
  | refl => exact hx
  | step ho _ ih => exact I _ ho _ ih
theorem Reach.symm {fl : List (List Nat)} {m x y : Nat} (I : Into fl m) (V : Inv fl m) (h : Reach fl x y) (hx : x < m) : Reach fl y x := by
  induction h with
  | refl => exact .refl _
  | step ho r ih =>
    rename_i y o
    have hy := r.lt I hx
    have : Reach fl (sel o y) y := by
      have := Reach.step ho (.refl (sel o y))
      rw [V o ho y hy] at this
      exact this
    exact this.trans ih
end Pl
end
section
set_option maxHeartbeats 4000000
namespace Pl
def srt (l : List Nat) : List Nat := l.mergeSort (fun a b => decide (a ≤ b))
theorem srt_mem {l : List Nat} {x : Nat} : x ∈ srt l ↔ x ∈ l := List.mem_mergeSort
theorem srt_nd {l : List Nat} (h : l.Nodup) : (srt l).Nodup := (List.mergeSort_perm l _).nodup_iff.mpr h
theorem srt_le (l : List Nat) : (srt l).Pairwise (· ≤ ·) := by
  have := List.pairwise_mergeSort (le := fun a b : Nat => decide (a ≤ b)) (by intro a b c; simp; omega) (by intro a b; simp; omega) l
  exact this.imp (by simp)
def inAny (found : List (List Nat)) (x : Nat) : Bool := found.any fun l => l.contains x
theorem inAny_iff {found : List (List Nat)} {x : Nat} : inAny found x = true ↔ ∃ l ∈ found, x ∈ l := by
  unfold inAny
  simp
def lotsF (fl : List (List Nat)) (m : Nat) : List Nat → List (List Nat) → List (List Nat)
  | [], found => found
  | x :: xs, found => if inAny found x = true then lotsF fl m xs found else lotsF fl m xs (found ++ [srt (line fl m x)])
def lots (fl : List (List Nat)) (m : Nat) : List (List Nat) := lotsF fl m (List.range m) []
structure LInv (fl : List (List Nat)) (m : Nat) (found : List (List Nat)) : Prop where
  orb : ∀ l ∈ found, ∃ x, x < m ∧ ∀ z, z ∈ l ↔ Reach fl x z
  nd : ∀ l ∈ found, l.Nodup
  ap : found.Pairwise fun a b => ∀ z, z ∈ a → z ∉ b
theorem LInv.cl {fl : List (List Nat)} {m : Nat} {found : List (List Nat)} (I : Into fl m) (V : Inv fl m) (L : LInv fl m found) {l : List Nat} (hl : l ∈ found) {z w : Nat} (hz : z ∈ l) (r : Reach fl z w) : w ∈ l := by
  obtain ⟨x, hx, h⟩ := L.orb l hl
  exact (h w).mpr (((h z).mp hz).trans r)
theorem LInv.lt {fl : List (List Nat)} {m : Nat} {found : List (List Nat)} (I : Into fl m) (L : LInv fl m found) {l : List Nat} (hl : l ∈ found) {z : Nat} (hz : z ∈ l) : z < m := by
  obtain ⟨x, hx, h⟩ := L.orb l hl
  exact ((h z).mp hz).lt I hx
theorem LInv.next {fl : List (List Nat)} {m x : Nat} {found : List (List Nat)} (I : Into fl m) (V : Inv fl m) (L : LInv fl m found) (hx : x < m) (hn : inAny found x ≠ true) : LInv fl m (found ++ [srt (line fl m x)]) := by
  refine ⟨fun l hl => ?_, fun l hl => ?_, ?_⟩
  · rcases List.mem_append.mp hl with hl | hl
    · exact L.orb l hl
    · simp at hl; subst hl
      exact ⟨x, hx, fun z => srt_mem.trans (line_mem I hx)⟩
  · rcases List.mem_append.mp hl with hl | hl
    · exact L.nd l hl
    · simp at hl; subst hl
      exact srt_nd (line_ok I hx).nd
  · rw [List.pairwise_append]
    refine ⟨L.ap, by simp, fun a ha b hb z hz hzb => ?_⟩
    simp at hb; subst hb
    have r : Reach fl x z := (line_mem I hx).mp (srt_mem.mp hzb)
    exact hn (inAny_iff.mpr ⟨a, ha, L.cl I V ha hz (r.symm I V hx)⟩)
theorem lotsF_ok {fl : List (List Nat)} {m : Nat} (I : Into fl m) (V : Inv fl m) : ∀ (xs : List Nat) (found : List (List Nat)), (∀ x ∈ xs, x < m) → LInv fl m found →
    LInv fl m (lotsF fl m xs found) ∧ (∀ l ∈ found, l ∈ lotsF fl m xs found) ∧ ∀ x ∈ xs, ∃ l ∈ lotsF fl m xs found, x ∈ l
  | [], found, _, L => ⟨L, fun l h => h, fun x h => by simp at h⟩
  | x :: xs, found, h, L => by
    unfold lotsF
    have hx := h x (by simp)
    split
    · rename_i hc
      obtain ⟨a, b, c⟩ := lotsF_ok I V xs found (fun y hy => h y (by simp [hy])) L
      refine ⟨a, b, fun y hy => ?_⟩
      rcases List.mem_cons.mp hy with rfl | hy
      · obtain ⟨l, hl, hz⟩ := inAny_iff.mp hc
        exact ⟨l, b l hl, hz⟩
      · exact c y hy
    · rename_i hc
      obtain ⟨a, b, c⟩ := lotsF_ok I V xs _ (fun y hy => h y (by simp [hy])) (L.next I V hx hc)
      refine ⟨a, fun l hl => b l (by simp [hl]), fun y hy => ?_⟩
      rcases List.mem_cons.mp hy with rfl | hy
      · exact ⟨_, b _ (by simp), srt_mem.mpr (line_ok I hx).me⟩
      · exact c y hy
theorem lots_ok {fl : List (List Nat)} {m : Nat} (I : Into fl m) (V : Inv fl m) : LInv fl m (lots fl m) ∧ ∀ x, x < m → ∃ l ∈ lots fl m, x ∈ l := by
  obtain ⟨a, _, c⟩ := lotsF_ok I V (List.range m) [] (fun x h => List.mem_range.mp h) ⟨by simp, by simp, .nil⟩
  exact ⟨a, fun x hx => c x (List.mem_range.mpr hx)⟩
end Pl
end
section
set_option maxHeartbeats 4000000
namespace Pl
def item (fl : List (List Nat)) (i : Nat) : List Nat := fl.getD i []
structure Flips (fl : List (List Nat)) (m : Nat) : Prop where
  len : ∀ o ∈ fl, o.length = m
  into : Into fl m
  inv : Inv fl m
def Com (fl : List (List Nat)) (m i j : Nat) : Prop := ∀ x, x < m → sel (item fl j) (sel (item fl i) x) = sel (item fl i) (sel (item fl j) x)
def Coms (fl : List (List Nat)) (m : Nat) : Prop := ∀ i j, i + 2 ≤ j → j < fl.length → Com fl m i j
structure Net (fl : List (List Nat)) (m : Nat) : Prop extends Flips fl m where
  rank : 1 ≤ fl.length ∧ fl.length ≤ 6
  many : 1 ≤ m ∧ m ≤ 4000
  com : Coms fl m
  conn : ∀ x, x < m → Reach fl 0 x
theorem item_mem {fl : List (List Nat)} {i : Nat} (h : i < fl.length) : item fl i ∈ fl := by
  unfold item
  rw [List.getD_eq_getElem?_getD, List.getElem?_eq_getElem h]
  exact List.getElem_mem h
theorem mem_item {fl : List (List Nat)} {o : List Nat} (h : o ∈ fl) : ∃ i, i < fl.length ∧ item fl i = o := by
  obtain ⟨i, hi, e⟩ := List.mem_iff_getElem.mp h
  refine ⟨i, hi, ?_⟩
  unfold item
  rw [List.getD_eq_getElem?_getD, List.getElem?_eq_getElem hi]
  exact e
theorem item_map {f : List Nat → List Nat} {fl : List (List Nat)} {i : Nat} (h : i < fl.length) : item (fl.map f) i = f (item fl i) := by
  unfold item
  rw [List.getD_eq_getElem?_getD, List.getD_eq_getElem?_getD, List.getElem?_map, List.getElem?_eq_getElem h]
  rfl
theorem sel_mk {l : List Nat} {f : Nat → Nat} {k : Nat} (h : k < l.length) : sel (l.map f) k = f (l.getD k 0) := by
  unfold sel
  rw [List.getD_eq_getElem?_getD, List.getD_eq_getElem?_getD, List.getElem?_map, List.getElem?_eq_getElem h]
  rfl
theorem getD_idxOf {l : List Nat} {x : Nat} (h : x ∈ l) : l.getD (l.idxOf x) 0 = x := by
  have hl : l.idxOf x < l.length := List.idxOf_lt_length_of_mem h
  rw [List.getD_eq_getElem?_getD, List.getElem?_eq_getElem hl]
  exact List.getElem_idxOf hl
theorem idxOf_getD {l : List Nat} (nd : l.Nodup) {k : Nat} (h : k < l.length) : l.idxOf (l.getD k 0) = k := by
  rw [List.getD_eq_getElem?_getD, List.getElem?_eq_getElem h]
  exact nd.idxOf_getElem k h
def formL (fl : List (List Nat)) (l : List Nat) : List (List Nat) := fl.map fun o => l.map fun x => l.idxOf (sel o x)
/-- a list that flips do not leave -/
structure Cl (fl : List (List Nat)) (m : Nat) (l : List Nat) : Prop where
  nd : l.Nodup
  lt : ∀ z ∈ l, z < m
  cl : ∀ z ∈ l, ∀ o ∈ fl, sel o z ∈ l
section
variable {fl : List (List Nat)} {m : Nat} {l : List Nat}
theorem sel_form (C : Cl fl m l) {o : List Nat} (ho : o ∈ fl) {k : Nat} (h : k < l.length) : sel (l.map fun x => l.idxOf (sel o x)) k < l.length ∧ l.getD (sel (l.map fun x => l.idxOf (sel o x)) k) 0 = sel o (l.getD k 0) := by
  rw [sel_mk h]
  have hm := C.cl _ (getD_mem h) o ho
  exact ⟨List.idxOf_lt_length_of_mem hm, getD_idxOf hm⟩
theorem getD_inj (nd : l.Nodup) {i j : Nat} (hi : i < l.length) (hj : j < l.length) (e : l.getD i 0 = l.getD j 0) : i = j := by
  rw [← idxOf_getD nd hi, ← idxOf_getD nd hj, e]
theorem form_flips (C : Cl fl m l) (F : Flips fl m) : Flips (formL fl l) l.length := by
  refine ⟨fun o ho => ?_, fun o ho x hx => ?_, fun o ho x hx => ?_⟩
  · obtain ⟨p, hp, rfl⟩ := List.mem_map.mp ho; simp
  · obtain ⟨p, hp, rfl⟩ := List.mem_map.mp ho; exact (sel_form C hp hx).1
  · obtain ⟨p, hp, rfl⟩ := List.mem_map.mp ho
    obtain ⟨h1, h2⟩ := sel_form C hp hx
    obtain ⟨h3, h4⟩ := sel_form C hp h1
    refine getD_inj C.nd h3 hx ?_
    rw [h4, h2, F.inv p hp _ (C.lt _ (getD_mem hx))]
theorem form_com (C : Cl fl m l) {i j : Nat} (hi : i < fl.length) (hj : j < fl.length) (h : Com fl m i j) : Com (formL fl l) l.length i j := by
  intro x hx
  unfold formL
  rw [item_map hi, item_map hj]
  have mi := item_mem hi
  have mj := item_mem hj
  obtain ⟨a1, a2⟩ := sel_form C mi hx
  obtain ⟨b1, b2⟩ := sel_form C mj a1
  obtain ⟨c1, c2⟩ := sel_form C mj hx
  obtain ⟨d1, d2⟩ := sel_form C mi c1
  refine getD_inj C.nd b1 d1 ?_
  rw [b2, a2, d2, c2, h _ (C.lt _ (getD_mem hx))]
theorem form_reach (C : Cl fl m l) {x0 y : Nat} (h0 : x0 ∈ l) (r : Reach fl x0 y) : y ∈ l ∧ Reach (formL fl l) (l.idxOf x0) (l.idxOf y) := by
  induction r with
  | refl => exact ⟨h0, .refl _⟩
  | step ho r ih =>
    rename_i y o
    refine ⟨C.cl _ ih.1 o ho, ?_⟩
    have hk := List.idxOf_lt_length_of_mem ih.1
    have : sel (l.map fun x => l.idxOf (sel o x)) (l.idxOf y) = l.idxOf (sel o y) := by
      rw [sel_mk hk, getD_idxOf ih.1]
    rw [← this]
    exact .step (List.mem_map.mpr ⟨o, ho, rfl⟩) ih.2
end
theorem bfs_pre (fl : List (List Nat)) : ∀ (k : Nat) (l : List Nat) (a : Nat), ∃ t, bfs fl k l a = l ++ t
  | 0, l, a => ⟨[], by simp [bfs]⟩
  | k + 1, l, a => by
    unfold bfs
    split
    · obtain ⟨t, e⟩ := row_pre fl l (l.getD a 0)
      obtain ⟨u, e'⟩ := bfs_pre fl k (row fl l (l.getD a 0)) (a + 1)
      exact ⟨t ++ u, by rw [e', e, List.append_assoc]⟩
    · exact ⟨[], by simp⟩
theorem line_head (fl : List (List Nat)) (m x : Nat) : ∃ t, line fl m x = x :: t := bfs_pre fl (m + 1) [x] 0
theorem line_Cl {fl : List (List Nat)} {m x : Nat} (I : Into fl m) (hx : x < m) : Cl fl m (line fl m x) :=
  ⟨(line_ok I hx).nd, (line_ok I hx).lt, fun z hz o ho => line_cl I hx hz ho⟩
def form (fl : List (List Nat)) (m x : Nat) : List (List Nat) := formL fl (line fl m x)
theorem form_net {fl : List (List Nat)} {m x : Nat} (F : Flips fl m) (hx : x < m) (hm : m ≤ 4000) (hr : 1 ≤ fl.length ∧ fl.length ≤ 6) (hc : Coms fl m) : Net (form fl m x) (line fl m x).length := by
  have C := line_Cl F.into hx
  refine ⟨form_flips C F, by simpa [form, formL] using hr, ?_, fun i j hij hj => ?_, fun y hy => ?_⟩
  · obtain ⟨t, e⟩ := line_head fl m x
    have h1 := nd_len C.nd C.lt
    refine ⟨by rw [e]; simp, by omega⟩
  · have hj' : j < fl.length := by simpa [form, formL] using hj
    exact form_com C (by omega) hj' (hc i j hij hj')
  · have r := (line_mem F.into hx).mp (getD_mem hy)
    obtain ⟨t, e⟩ := line_head fl m x
    have h := (form_reach C (by rw [e]; simp) r).2
    rw [idxOf_getD C.nd hy] at h
    have h0 : (line fl m x).idxOf x = 0 := by rw [e]; simp
    rw [h0] at h
    exact h
end Pl
end
section
set_option maxHeartbeats 4000000
namespace Pl
theorem Flips.sub {fl fl' : List (List Nat)} {m : Nat} (F : Flips fl m) (h : ∀ o ∈ fl', o ∈ fl) : Flips fl' m :=
  ⟨fun o ho => F.len o (h o ho), fun o ho => F.into o (h o ho), fun o ho => F.inv o (h o ho)⟩
/-- the flips with some numbers -/
def kept (fl : List (List Nat)) (is : List Nat) : List (List Nat) := is.map (item fl)
theorem Flips.kept {fl : List (List Nat)} {m : Nat} (F : Flips fl m) {is : List Nat} (h : ∀ i ∈ is, i < fl.length) : Flips (kept fl is) m :=
  F.sub fun o ho => by obtain ⟨i, hi, rfl⟩ := List.mem_map.mp ho; exact item_mem (h i hi)
/-- the number of the lot of x -/
def idx (ls : List (List Nat)) (x : Nat) : Nat := ls.findIdx fun l => l.contains x
/-- lots of m things: a partition -/
structure Part (ls : List (List Nat)) (m : Nat) : Prop where
  ne : ∀ l ∈ ls, l ≠ []
  nd : ∀ l ∈ ls, l.Nodup
  lt : ∀ l ∈ ls, ∀ z ∈ l, z < m
  ap : ls.Pairwise fun a b => ∀ z, z ∈ a → z ∉ b
  all : ∀ x, x < m → ∃ l ∈ ls, x ∈ l
section
variable {ls : List (List Nat)} {m : Nat}
theorem idx_lt (P : Part ls m) {x : Nat} (h : x < m) : idx ls x < ls.length := by
  obtain ⟨l, hl, hx⟩ := P.all x h
  exact List.findIdx_lt_length_of_exists ⟨l, hl, by simpa using hx⟩
theorem idx_mem (P : Part ls m) {x : Nat} (h : x < m) : x ∈ item ls (idx ls x) := by
  have hl := idx_lt P h
  have := List.findIdx_getElem (w := hl)
  unfold item
  rw [List.getD_eq_getElem?_getD, List.getElem?_eq_getElem hl, Option.getD_some]
  exact List.contains_iff_mem.mp this
theorem idx_of (P : Part ls m) {x k : Nat} (hk : k < ls.length) (h : x ∈ item ls k) : idx ls x = k := by
  have hx : x < m := P.lt _ (item_mem hk) _ h
  have h1 := idx_lt P hx
  have h2 := idx_mem P hx
  unfold item at h h2
  rw [List.getD_eq_getElem?_getD, List.getElem?_eq_getElem h1] at h2
  rw [List.getD_eq_getElem?_getD, List.getElem?_eq_getElem hk] at h
  have := List.pairwise_iff_getElem.mp P.ap
  rcases Nat.lt_trichotomy (idx ls x) k with q | q | q
  · exact absurd h (this _ _ h1 hk q x h2)
  · exact q
  · exact absurd h2 (this _ _ hk h1 q x h)
theorem idx_iff (P : Part ls m) {x k : Nat} (hk : k < ls.length) : x ∈ item ls k ↔ x < m ∧ idx ls x = k :=
  ⟨fun h => ⟨P.lt _ (item_mem hk) _ h, idx_of P hk h⟩, fun ⟨h, e⟩ => e ▸ idx_mem P h⟩
theorem idx_onto (P : Part ls m) {k : Nat} (hk : k < ls.length) : ∃ x, x < m ∧ idx ls x = k := by
  have hm := item_mem hk
  obtain ⟨x, hx⟩ := List.exists_mem_of_ne_nil _ (P.ne _ hm)
  exact ⟨x, P.lt _ hm _ hx, idx_of P hk hx⟩
theorem part_len (P : Part ls m) : ls.length ≤ m := by
  have : ((List.range ls.length).map fun k => (item ls k).head!).Nodup := by
    refine List.pairwise_map.mpr (List.pairwise_iff_getElem.mpr fun i j hi hj hij e => ?_)
    simp at hi hj
    simp only [List.getElem_range] at e
    have hm : ∀ k, k < ls.length → (item ls k).head! ∈ item ls k := fun k hk => by
      have := P.ne _ (item_mem hk)
      cases e : item ls k with
      | nil => exact absurd e this
      | cons a b => simp [List.head!]
    have h1 := idx_of P hi (hm i hi)
    have h2 := idx_of P hj (hm j hj)
    rw [e] at h1
    omega
  have := nd_len this fun z hz => by
    obtain ⟨k, hk, rfl⟩ := List.mem_map.mp hz
    have hk' : k < ls.length := by simpa using hk
    have hn := P.ne _ (item_mem hk')
    refine P.lt _ (item_mem hk') _ ?_
    cases e : item ls k with
    | nil => exact absurd e hn
    | cons a b => simp [List.head!]
  simpa using this
end
theorem lots_part {fl : List (List Nat)} {m : Nat} (F : Flips fl m) : Part (lots fl m) m := by
  obtain ⟨L, h⟩ := lots_ok F.into F.inv
  refine ⟨fun l hl e => ?_, L.nd, fun l hl z hz => L.lt F.into hl hz, L.ap, h⟩
  obtain ⟨x, hx, q⟩ := L.orb l hl
  have := (q x).mpr (.refl x)
  rw [e] at this
  cases this
theorem lots_one {fl : List (List Nat)} {m : Nat} (F : Flips fl m) (hm : 1 ≤ m) (hc : ∀ x, x < m → Reach fl 0 x) : (lots fl m).length = 1 := by
  obtain ⟨L, h⟩ := lots_ok F.into F.inv
  have P := lots_part F
  obtain ⟨l0, hl0, _⟩ := h 0 hm
  have hpos : 0 < (lots fl m).length := List.length_pos_of_mem hl0
  refine Nat.le_antisymm (Nat.le_of_not_lt fun hlt => ?_) hpos
  have key : ∀ k, k < (lots fl m).length → idx (lots fl m) 0 = k := fun k hk => by
    refine idx_of P hk ?_
    have hm' := item_mem hk
    obtain ⟨x, hx, q⟩ := L.orb _ hm'
    exact (q 0).mpr ((hc x hx).symm F.into F.inv hm)
  have := key 0 hpos
  have := key 1 hlt
  omega
def placeL (k : Nat) (f : List Nat) (own : List Nat) : List Nat := own.foldl (fun f x => f.set x k) f
def placesF : Nat → List (List Nat) → List Nat → List Nat
  | _, [], f => f
  | k, own :: r, f => placesF (k + 1) r (placeL k f own)
theorem placeL_len (k : Nat) : ∀ (own f : List Nat), (placeL k f own).length = f.length
  | [], f => rfl
  | x :: own, f => by unfold placeL; rw [List.foldl_cons]; exact (placeL_len k own (f.set x k)).trans (by simp)
theorem placesF_len : ∀ (ls : List (List Nat)) (k : Nat) (f : List Nat), (placesF k ls f).length = f.length
  | [], _, f => rfl
  | own :: r, k, f => by unfold placesF; rw [placesF_len r (k + 1), placeL_len]
theorem placeL_get (k x : Nat) : ∀ (own f : List Nat), x < f.length → (placeL k f own).getD x 0 = if x ∈ own then k else f.getD x 0
  | [], f, h => by simp [placeL]
  | y :: own, f, h => by
    show (placeL k (f.set y k) own).getD x 0 = _
    rw [placeL_get k x own (f.set y k) (by simpa using h)]
    by_cases h1 : x ∈ own
    · simp [h1]
    · by_cases h2 : x = y
      · subst h2
        simp [h1, List.getD_eq_getElem?_getD, h]
      · simp [h1, h2, List.getD_eq_getElem?_getD, List.getElem?_set_ne (Ne.symm h2)]
theorem placesF_get (x : Nat) : ∀ (ls : List (List Nat)) (k : Nat) (f : List Nat), x < f.length → (ls.Pairwise fun a b => ∀ z, z ∈ a → z ∉ b) → (placesF k ls f).getD x 0 = if ls.any (fun l => l.contains x) = true then k + idx ls x else f.getD x 0
  | [], k, f, h, _ => by simp [placesF]
  | own :: r, k, f, h, P => by
    unfold placesF
    rw [List.pairwise_cons] at P
    rw [placesF_get x r (k + 1) _ (by rw [placeL_len]; exact h) P.2, placeL_get k x own f h]
    unfold idx
    rw [List.findIdx_cons]
    by_cases h1 : x ∈ own
    · have h2 : (r.any fun l => l.contains x) = false := by
        rw [List.any_eq_false]
        intro l hl
        simpa using P.1 l hl x h1
      have h3 : own.contains x = true := by simpa using h1
      rw [List.any_cons, h2, h3, if_pos h1]
      simp
    · by_cases h2 : (r.any fun l => l.contains x) = true
      · rw [if_pos h2]
        have : (own.contains x) = false := by simpa using h1
        rw [List.any_cons, this, h2]
        simp; omega
      · rw [if_neg h2, if_neg h1]
        have : (own.contains x) = false := by simpa using h1
        rw [if_neg (by rw [List.any_cons, this]; simpa using h2)]
theorem places_eq {ls : List (List Nat)} {m : Nat} (P : Part ls m) : placesF 0 ls (List.replicate m 0) = (List.range m).map (idx ls) := by
  apply List.ext_getElem?
  intro x
  by_cases hx : x < m
  · have h := placesF_get x ls 0 (List.replicate m 0) (by simpa using hx) P.ap
    have h1 : x < (placesF 0 ls (List.replicate m 0)).length := by rw [placesF_len]; simpa using hx
    rw [List.getD_eq_getElem?_getD, List.getElem?_eq_getElem h1, Option.getD_some] at h
    rw [List.getElem?_eq_getElem h1, h, if_pos, List.getElem?_map, List.getElem?_range hx]
    · simp
    · obtain ⟨l, hl, hxl⟩ := P.all x hx
      exact List.any_eq_true.mpr ⟨l, hl, by simpa using hxl⟩
  · rw [List.getElem?_eq_none (by rw [placesF_len]; simpa using hx), List.getElem?_eq_none (by simpa using hx)]
end Pl
end
section
set_option maxHeartbeats 4000000
namespace Pl
structure Flip (o : List Nat) (m : Nat) : Prop where
  len : o.length = m
  into : ∀ x, x < m → sel o x < m
  inv : ∀ x, x < m → sel o (sel o x) = x
theorem flips_iff {fl : List (List Nat)} {m : Nat} : Flips fl m ↔ ∀ o ∈ fl, Flip o m :=
  ⟨fun F o ho => ⟨F.len o ho, F.into o ho, F.inv o ho⟩, fun h => ⟨fun o ho => (h o ho).len, fun o ho => (h o ho).into, fun o ho => (h o ho).inv⟩⟩
def flipB (o : List Nat) (m : Nat) : Bool := o.length == m && (List.range m).all fun x => decide (sel o x < m) && (sel o (sel o x) == x)
theorem flipB_ok {o : List Nat} {m : Nat} (h : flipB o m = true) : Flip o m := by
  unfold flipB at h
  rw [Bool.and_eq_true, List.all_eq_true] at h
  have k : ∀ x, x < m → sel o x < m ∧ sel o (sel o x) = x := fun x hx => by
    have := h.2 x (List.mem_range.mpr hx)
    simpa using this
  exact ⟨by simpa using h.1, fun x hx => (k x hx).1, fun x hx => (k x hx).2⟩
def comB (fl : List (List Nat)) (m i j : Nat) : Bool := (List.range m).all fun x => sel (item fl j) (sel (item fl i) x) == sel (item fl i) (sel (item fl j) x)
theorem comB_ok {fl : List (List Nat)} {m i j : Nat} (h : comB fl m i j = true) : Com fl m i j := fun x hx => by
  have := List.all_eq_true.mp h x (List.mem_range.mpr hx)
  simpa using this
def comsB (fl : List (List Nat)) (m : Nat) : Bool := (List.range fl.length).all fun j => (List.range j).all fun i => decide (j < i + 2) || comB fl m i j
theorem comsB_ok {fl : List (List Nat)} {m : Nat} (h : comsB fl m = true) : Coms fl m := fun i j hij hj => by
  have := List.all_eq_true.mp (List.all_eq_true.mp h j (List.mem_range.mpr hj)) i (List.mem_range.mpr (by omega))
  rw [Bool.or_eq_true] at this
  rcases this with q | q
  · simp at q; omega
  · exact comB_ok q
theorem conn_of {fl : List (List Nat)} {m : Nat} (I : Into fl m) (hm : 0 < m) (h : (line fl m 0).length = m) : ∀ x, x < m → Reach fl 0 x := fun x hx => by
  have B := line_ok I hm
  have C := line_Cl I hm
  refine (line_mem I hm).mp ?_
  refine Classical.byContradiction fun hn => ?_
  have : (x :: line fl m 0).length ≤ m := nd_len (List.nodup_cons.mpr ⟨hn, C.nd⟩) fun z hz => by
    rcases List.mem_cons.mp hz with rfl | hz
    · exact hx
    · exact C.lt z hz
  rw [List.length_cons] at this
  omega
def netB (fl : List (List Nat)) (m : Nat) : Bool := fl.all (flipB · m) && (comsB fl m && (decide (1 ≤ fl.length ∧ fl.length ≤ 6 ∧ 1 ≤ m ∧ m ≤ 4000) && (line fl m 0).length == m))
theorem netB_ok {fl : List (List Nat)} {m : Nat} (h : netB fl m = true) : Net fl m := by
  unfold netB at h
  rw [Bool.and_eq_true, Bool.and_eq_true, Bool.and_eq_true] at h
  obtain ⟨h1, h2, h3, h4⟩ := h
  have F : Flips fl m := flips_iff.mpr fun o ho => flipB_ok (List.all_eq_true.mp h1 o ho)
  have h3 := of_decide_eq_true h3
  exact { toFlips := F, rank := ⟨h3.1, h3.2.1⟩, many := ⟨h3.2.2.1, h3.2.2.2⟩, com := comsB_ok h2, conn := conn_of F.into h3.2.2.1 (by simpa using h4) }
structure PInv (m : Nat) (left row : List Nat) : Prop where
  fl : Flip row m
  nd : left.Nodup
  lt : ∀ z ∈ left, z < m
  fx : ∀ z ∈ left, sel row z = z
theorem sel_set {o : List Nat} {x y z : Nat} (h : x < o.length) : sel (o.set x y) z = if z = x then y else sel o z := by
  unfold sel
  rw [List.getD_eq_getElem?_getD, List.getD_eq_getElem?_getD]
  split
  · rename_i e; subst e; simp [h]
  · rename_i e; rw [List.getElem?_set_ne (Ne.symm e)]
theorem sel_range {m x : Nat} (h : x < m) : sel (List.range m) x = x := by
  unfold sel
  rw [List.getD_eq_getElem?_getD, List.getElem?_range h]; rfl
theorem PInv.start (m : Nat) : PInv m (List.range m) (List.range m) := by
  refine ⟨⟨by simp, fun x hx => by rw [sel_range hx]; exact hx, fun x hx => by rw [sel_range hx, sel_range hx]⟩, List.nodup_range, fun z hz => List.mem_range.mp hz, fun z hz => sel_range (List.mem_range.mp hz)⟩
theorem PInv.drop {m x : Nat} {left row : List Nat} (P : PInv m (x :: left) row) : PInv m left row :=
  ⟨P.fl, (List.nodup_cons.mp P.nd).2, fun z hz => P.lt z (by simp [hz]), fun z hz => P.fx z (by simp [hz])⟩
theorem PInv.pair {m x k : Nat} {left row : List Nat} (P : PInv m (x :: left) row) (hk : k < left.length) :
    PInv m (left.eraseIdx k) ((row.set x (left.getD k 0)).set (left.getD k 0) x) := by
  have hy := getD_mem hk
  have hn := List.nodup_cons.mp P.nd
  have hxy : x ≠ left.getD k 0 := fun e => hn.1 (e ▸ hy)
  have hx := P.lt x (by simp)
  have hy' := P.lt (left.getD k 0) (by simp only [List.mem_cons]; exact .inr hy)
  have fx := P.fx x (by simp)
  have fy := P.fx (left.getD k 0) (by simp only [List.mem_cons]; exact .inr hy)
  have hl := P.fl.len
  have hs : ∀ z, sel ((row.set x (left.getD k 0)).set (left.getD k 0) x) z = if z = left.getD k 0 then x else if z = x then left.getD k 0 else sel row z := fun z => by
    rw [sel_set (by rw [List.length_set, hl]; exact hy'), sel_set (by rw [hl]; exact hx)]
  have sub : ∀ z ∈ left.eraseIdx k, z ∈ left ∧ z ≠ left.getD k 0 := fun z hz => by
    refine ⟨List.mem_of_mem_eraseIdx hz, fun e => ?_⟩
    rw [List.mem_eraseIdx_iff_getElem?] at hz
    obtain ⟨i, hi, h⟩ := hz
    have hil := (List.getElem?_eq_some_iff.mp h).1
    have : left.getD i 0 = left.getD k 0 := by
      rw [List.getD_eq_getElem?_getD, h, Option.getD_some, e]
    exact hi (getD_inj hn.2 hil hk this)
  refine ⟨⟨by simp [hl], fun z hz => ?_, fun z hz => ?_⟩, hn.2.sublist (List.eraseIdx_sublist _ _), fun z hz => P.lt z (by simp [(sub z hz).1]), fun z hz => ?_⟩
  · rw [hs]
    split
    · exact hx
    · split
      · exact hy'
      · exact P.fl.into z hz
  · by_cases h1 : z = left.getD k 0
    · rw [hs z, if_pos h1, hs, if_neg hxy, if_pos rfl, h1]
    · by_cases h2 : z = x
      · rw [hs z, if_neg h1, if_pos h2, hs, if_pos rfl, h2]
      · rw [hs z, if_neg h1, if_neg h2, hs, if_neg, if_neg, P.fl.inv z hz]
        · intro e; have := P.fl.inv z hz; rw [e, fx] at this; exact h2 this.symm
        · intro e; have := P.fl.inv z hz; rw [e, fy] at this; exact h1 this.symm
  · obtain ⟨h1, h2⟩ := sub z hz
    rw [hs, if_neg h2, if_neg, P.fx z (by simp [h1])]
    rintro rfl; exact hn.1 h1
def mapEnds (e : Nat) : List Nat := (List.range e).foldl (fun l k => l ++ [4 * k + 1, 4 * k, 4 * k + 3, 4 * k + 2]) []
def mapSides (e : Nat) : List Nat := (List.range e).foldl (fun l k => l ++ [4 * k + 2, 4 * k + 3, 4 * k, 4 * k + 1]) []
theorem map_ok : ∀ e, e < 5 → flipB (mapEnds e) (4 * e) = true ∧ flipB (mapSides e) (4 * e) = true ∧ ∀ row, (comB [mapEnds e, row, mapSides e] (4 * e) 0 2) = true := by
  intro e he
  match e, he with
  | 0, _ => exact ⟨by decide, by decide, fun row => rfl⟩
  | 1, _ => exact ⟨by decide, by decide, fun row => rfl⟩
  | 2, _ => exact ⟨by decide, by decide, fun row => rfl⟩
  | 3, _ => exact ⟨by decide, by decide, fun row => rfl⟩
  | 4, _ => exact ⟨by decide, by decide, fun row => rfl⟩
theorem map_net {e : Nat} (h1 : 1 ≤ e) (h : e < 5) {row : List Nat} (hr : Flip row (4 * e)) : ∃ m, m ≤ 16 ∧ Net (form [mapEnds e, row, mapSides e] (4 * e) 0) m := by
  obtain ⟨a, b, c⟩ := map_ok e h
  have F : Flips [mapEnds e, row, mapSides e] (4 * e) := flips_iff.mpr fun o ho => by
    simp only [List.mem_cons, List.not_mem_nil, or_false] at ho
    rcases ho with rfl | rfl | rfl
    · exact flipB_ok a
    · exact hr
    · exact flipB_ok b
  have C := line_Cl F.into (x := 0) (by omega)
  refine ⟨_, ?_, form_net F (by omega) (by omega) (by simp) fun i j hij hj => ?_⟩
  · have := nd_len C.nd C.lt; omega
  · simp at hj
    have : i = 0 ∧ j = 2 := by omega
    obtain ⟨rfl, rfl⟩ := this
    exact comB_ok (c row)
def polyOne (p : Nat) : List Nat := (List.range (2 * p)).map fun x => if x % 2 = 0 then x + 1 else x - 1
def polyTwo (p : Nat) : List Nat := (List.range (2 * p)).map fun x => if x % 2 = 0 then (x + 2 * p - 1) % (2 * p) else (x + 1) % (2 * p)
theorem poly_ok : ∀ p, p < 8 → flipB (polyOne p) (2 * p) = true ∧ flipB (polyTwo p) (2 * p) = true := by decide
theorem pair_net {m : Nat} {a b : List Nat} (hm : 1 ≤ m ∧ m ≤ 4000) (ha : Flip a m) (hb : Flip b m) : ∃ k, k ≤ m ∧ Net (form [a, b] m 0) k := by
  have F : Flips [a, b] m := flips_iff.mpr fun o ho => by
    simp only [List.mem_cons, List.not_mem_nil, or_false] at ho
    rcases ho with rfl | rfl
    · exact ha
    · exact hb
  have C := line_Cl F.into (x := 0) (by omega)
  exact ⟨_, nd_len C.nd C.lt, form_net F (by omega) (by omega) (by simp) fun i j hij hj => by simp at hj; omega⟩
theorem poly_net {p : Nat} (h1 : 1 ≤ p) (h : p < 8) : ∃ k, k ≤ 14 ∧ Net (form [polyOne p, polyTwo p] (2 * p) 0) k := by
  obtain ⟨a, b⟩ := poly_ok p h
  obtain ⟨k, hk, N⟩ := pair_net (m := 2 * p) (by omega) (flipB_ok a) (flipB_ok b)
  exact ⟨k, by omega, N⟩
def dbl1 (m : Nat) (o : List Nat) : List Nat := o ++ o.map (· + m)
def swp (m : Nat) : List Nat := (List.range (2 * m)).map fun x => (x + m) % (2 * m)
def dbl (fl : List (List Nat)) (m : Nat) : List (List Nat) := fl.map (dbl1 m) ++ [swp m]
theorem sel_dbl1 {o : List Nat} {m x : Nat} (hl : o.length = m) (hx : x < 2 * m) : sel (dbl1 m o) x = if x < m then sel o x else sel o (x - m) + m := by
  unfold sel dbl1
  rw [List.getD_eq_getElem?_getD, List.getD_eq_getElem?_getD, List.getD_eq_getElem?_getD]
  split
  · rw [List.getElem?_append_left (by omega)]
  · rw [List.getElem?_append_right (by omega), hl, List.getElem?_map, List.getElem?_eq_getElem (by omega)]; rfl
theorem sel_swp {m x : Nat} (hx : x < 2 * m) : sel (swp m) x = if x < m then x + m else x - m := by
  unfold swp
  rw [sel_mk (by simpa using hx)]
  have : (List.range (2 * m)).getD x 0 = x := sel_range hx
  rw [this]
  split
  · exact Nat.mod_eq_of_lt (by omega)
  · rw [show x + m = (x - m) + 2 * m by omega, Nat.add_mod_right]; exact Nat.mod_eq_of_lt (by omega)
theorem dbl_net {fl : List (List Nat)} {m : Nat} (N : Net fl m) (hn : fl.length ≤ 5) (hm : m ≤ 2000) : Net (dbl fl m) (2 * m) := by
  have hm1 := N.many.1
  have hd : ∀ o ∈ fl, ∀ x, x < 2 * m → sel (dbl1 m o) x < 2 * m ∧ (x < m → sel (dbl1 m o) x = sel o x ∧ sel o x < m) ∧ (m ≤ x → sel (dbl1 m o) x = sel o (x - m) + m ∧ sel o (x - m) < m) := fun o ho x hx => by
    rw [sel_dbl1 (N.len o ho) hx]
    by_cases h : x < m
    · have := N.into o ho x h
      rw [if_pos h]; exact ⟨by omega, fun _ => ⟨rfl, this⟩, fun q => by omega⟩
    · have := N.into o ho (x - m) (by omega)
      rw [if_neg h]; exact ⟨by omega, fun q => absurd q h, fun _ => ⟨rfl, this⟩⟩
  have hs : ∀ x, x < 2 * m → sel (swp m) x < 2 * m ∧ (x < m → sel (swp m) x = x + m) ∧ (m ≤ x → sel (swp m) x = x - m) := fun x hx => by
    rw [sel_swp hx]
    by_cases h : x < m
    · rw [if_pos h]; exact ⟨by omega, fun _ => rfl, fun q => by omega⟩
    · rw [if_neg h]; exact ⟨by omega, fun q => absurd q h, fun _ => rfl⟩
  have F : Flips (dbl fl m) (2 * m) := flips_iff.mpr fun o ho => by
    rcases List.mem_append.mp ho with h | h
    · obtain ⟨p, hp, rfl⟩ := List.mem_map.mp h
      refine ⟨by simp [dbl1, N.len p hp]; omega, fun x hx => (hd p hp x hx).1, fun x hx => ?_⟩
      obtain ⟨a, b, c⟩ := hd p hp x hx
      by_cases q : x < m
      · obtain ⟨e, l⟩ := b q
        rw [e, ((hd p hp _ (by omega)).2.1 l).1, N.inv p hp x q]
      · obtain ⟨e, l⟩ := c (by omega)
        rw [e, ((hd p hp _ (by omega)).2.2 (by omega)).1, show sel p (x - m) + m - m = sel p (x - m) by omega, N.inv p hp _ (by omega)]; omega
    · simp at h; subst h
      refine ⟨by simp [swp], fun x hx => (hs x hx).1, fun x hx => ?_⟩
      obtain ⟨a, b, c⟩ := hs x hx
      by_cases q : x < m
      · rw [b q, (hs _ (by omega)).2.2 (by omega)]; omega
      · rw [c (by omega), (hs _ (by omega)).2.1 (by omega)]; omega
  have low : ∀ {x y : Nat}, Reach fl x y → x < m → y < m ∧ Reach (dbl fl m) x y := fun r hx => by
    induction r with
    | refl => exact ⟨hx, .refl _⟩
    | step ho r ih =>
      rename_i y o
      obtain ⟨h1, h2⟩ := ih
      have := ((hd o ho y (by omega)).2.1 h1)
      refine ⟨this.2, ?_⟩
      rw [← this.1]
      exact .step (List.mem_append.mpr (.inl (List.mem_map.mpr ⟨o, ho, rfl⟩))) h2
  have il : ∀ i, i < fl.length → item (dbl fl m) i = dbl1 m (item fl i) := fun i hi => by
    rw [← item_map (f := dbl1 m) hi]
    unfold item dbl
    rw [List.getD_eq_getElem?_getD, List.getD_eq_getElem?_getD, List.getElem?_append_left (by simpa using hi)]
  have is : item (dbl fl m) fl.length = swp m := by
    unfold item dbl
    rw [List.getD_eq_getElem?_getD, List.getElem?_append_right (by simp)]; simp
  refine { toFlips := F, rank := by simp [dbl]; omega, many := by omega, com := fun i j hij hj x hx => ?_, conn := fun x hx => ?_ }
  · have hj' : j < fl.length + 1 := by simpa [dbl] using hj
    have hi : i < fl.length := by omega
    have mi := item_mem hi
    rw [il i hi]
    obtain ⟨a, b, c⟩ := hd _ mi x hx
    by_cases hjl : j < fl.length
    · rw [il j hjl]
      have mj := item_mem hjl
      obtain ⟨a', b', c'⟩ := hd _ mj x hx
      have hc := N.com i j hij hjl
      by_cases q : x < m
      · obtain ⟨e, l⟩ := b q
        obtain ⟨e', l'⟩ := b' q
        rw [e, e', ((hd _ mj _ (by omega)).2.1 l).1, ((hd _ mi _ (by omega)).2.1 l').1, hc x q]
      · obtain ⟨e, l⟩ := c (by omega)
        obtain ⟨e', l'⟩ := c' (by omega)
        rw [e, e', ((hd _ mj _ (by omega)).2.2 (by omega)).1, ((hd _ mi _ (by omega)).2.2 (by omega)).1, Nat.add_sub_cancel, Nat.add_sub_cancel, hc _ (by omega)]
    · have : j = fl.length := by omega
      subst this
      rw [is]
      obtain ⟨a', b', c'⟩ := hs x hx
      by_cases q : x < m
      · obtain ⟨e, l⟩ := b q
        rw [e, b' q, (hs _ (by omega)).2.1 l, ((hd _ mi _ (by omega)).2.2 (by omega)).1, Nat.add_sub_cancel]
      · obtain ⟨e, l⟩ := c (by omega)
        rw [e, c' (by omega), (hs _ (by omega)).2.2 (by omega), ((hd _ mi _ (by omega)).2.1 (by omega)).1, Nat.add_sub_cancel]
  · by_cases q : x < m
    · exact (low (N.conn x q) (by omega)).2
    · have h1 := (low (N.conn (x - m) (by omega)) (by omega)).2
      have h2 : sel (swp m) (x - m) = x := by rw [(hs _ (by omega)).2.1 (by omega)]; omega
      rw [← h2]
      exact .step (List.mem_append.mpr (.inr (by simp))) h1
end Pl
end
section
set_option maxHeartbeats 4000000
namespace Pl
def lotsS (fl : List (List Nat)) (m : Nat) (found : List (List Nat)) (x : Nat) : List (List Nat) := if inAny found x = true then found else found ++ [srt (line fl m x)]
theorem lotsF_fold (fl : List (List Nat)) (m : Nat) : ∀ (xs : List Nat) (found : List (List Nat)), lotsF fl m xs found = xs.foldl (lotsS fl m) found
  | [], _ => rfl
  | x :: xs, found => by
    rw [List.foldl_cons]
    unfold lotsF lotsS
    split
    · exact lotsF_fold fl m xs found
    · exact lotsF_fold fl m xs _
theorem lots_fold (fl : List (List Nat)) (m : Nat) : lots fl m = (List.range m).foldl (lotsS fl m) [] := lotsF_fold fl m _ _
theorem LInv.nil {fl : List (List Nat)} {m : Nat} : LInv fl m [] := ⟨by simp, by simp, .nil⟩
theorem LInv.stepS {fl : List (List Nat)} {m x : Nat} {found : List (List Nat)} (I : Into fl m) (V : Inv fl m) (L : LInv fl m found) (hx : x < m) : LInv fl m (lotsS fl m found x) := by
  unfold lotsS
  split
  · exact L
  · rename_i h; exact L.next I V hx h
theorem lots_len_le {fl : List (List Nat)} {m : Nat} (I : Into fl m) {found : List (List Nat)} (L : LInv fl m found) {l : List Nat} (hl : l ∈ found) : l.length ≤ m :=
  nd_len (L.nd l hl) fun z hz => L.lt I hl hz
theorem bfs_end {fl : List (List Nat)} {k : Nat} {l : List Nat} {a : Nat} (h : ¬ a < l.length) : bfs fl k l a = l := by
  cases k with
  | zero => rfl
  | succ k => unfold bfs; rw [if_neg h]
theorem bfs_next {fl : List (List Nat)} {k : Nat} {l : List Nat} {a : Nat} (h : a < l.length) : bfs fl (k + 1) l a = bfs fl k (row fl l (l.getD a 0)) (a + 1) := by
  rw [bfs, if_pos h]
theorem out_of {fl : List (List Nat)} {m x y : Nat} {found : List (List Nat)} (I : Into fl m) (V : Inv fl m) (L : LInv fl m found) (hx : x < m) (h : inAny found x = false) (r : Reach fl x y) : inAny found y = false := by
  refine Bool.eq_false_iff.mpr fun e => ?_
  obtain ⟨l, hl, hy⟩ := inAny_iff.mp e
  have := L.cl I V hl hy (r.symm I V hx)
  rw [inAny_iff.mpr ⟨l, hl, this⟩] at h
  cases h
theorem found_len {fl : List (List Nat)} {m : Nat} (I : Into fl m) {found : List (List Nat)} (L : LInv fl m found) : found.length ≤ m := by
  have : (found.map fun l => l.head!).Nodup := by
    refine List.pairwise_map.mpr (L.ap.imp_of_mem fun {a b} ha hb h e => ?_)
    have hne : ∀ l ∈ found, l.head! ∈ l := fun l hl => by
      obtain ⟨x, _, q⟩ := L.orb l hl
      have := (q x).mpr (.refl x)
      cases l with
      | nil => cases this
      | cons a b => simp [List.head!]
    exact h _ (hne a ha) (by rw [e]; exact hne b hb)
  have := nd_len this fun z hz => by
    obtain ⟨l, hl, rfl⟩ := List.mem_map.mp hz
    obtain ⟨x, _, q⟩ := L.orb l hl
    have hx := (q x).mpr (.refl x)
    refine L.lt I hl ?_
    cases l with
    | nil => cases hx
    | cons a b => simp [List.head!]
  simpa using this
theorem contains_snoc {l : List Nat} {y z : Nat} : (l ++ [y]).contains z = (l.contains z || z == y) := by
  rw [List.contains_append, List.contains_cons, List.contains_nil, Bool.or_false]
theorem Flips.mem_lt {fl : List (List Nat)} {m : Nat} (F : Flips fl m) {o : List Nat} (ho : o ∈ fl) {x : Nat} (hx : x ∈ o) : x < m := by
  obtain ⟨y, hy, e⟩ := List.mem_iff_getElem.mp hx
  have := F.into o ho y (by rw [← F.len o ho]; exact hy)
  unfold sel at this
  rw [List.getD_eq_getElem?_getD, List.getElem?_eq_getElem hy, e] at this
  exact this
theorem Flips.nodup {fl : List (List Nat)} {m : Nat} (F : Flips fl m) {o : List Nat} (ho : o ∈ fl) : o.Nodup := by
  refine List.pairwise_iff_getElem.mpr fun i j hi hj hij e => ?_
  have hl := F.len o ho
  have h1 := F.inv o ho i (by omega)
  have h2 := F.inv o ho j (by omega)
  have e1 : sel o i = sel o j := by
    unfold sel
    rw [List.getD_eq_getElem?_getD, List.getD_eq_getElem?_getD, List.getElem?_eq_getElem hi, List.getElem?_eq_getElem hj, e]
  rw [e1, h2] at h1
  omega
theorem Flips.twice {fl : List (List Nat)} {m : Nat} (F : Flips fl m) {o : List Nat} (ho : o ∈ fl) : o.map (sel o) = List.range m := by
  have hl := F.len o ho
  apply List.ext_getElem?
  intro x
  by_cases hx : x < m
  · have h1 : x < o.length := by omega
    have := F.inv o ho x hx
    rw [List.getElem?_map, List.getElem?_eq_getElem h1, List.getElem?_range hx]
    unfold sel at this ⊢
    rw [List.getD_eq_getElem?_getD (l := o) (i := x), List.getElem?_eq_getElem h1] at this
    exact congrArg some this
  · rw [List.getElem?_eq_none (by simp; omega), List.getElem?_eq_none (by simp; omega)]
def others (n i : Nat) : List Nat := (List.range n).filter fun j => !decide (j = i)
def facesP (fl : List (List Nat)) (m i : Nat) : List (List Nat) := lots (kept fl (others fl.length i)) m
def pl (fl : List (List Nat)) (m i x : Nat) : Nat := idx (facesP fl m i) x
theorem others_lt {n i j : Nat} (h : j ∈ others n i) : j < n := by
  unfold others at h
  exact List.mem_range.mp (List.mem_filter.mp h).1
theorem faces_part {fl : List (List Nat)} {m : Nat} (F : Flips fl m) (i : Nat) : Part (facesP fl m i) m := lots_part (F.kept fun _ h => others_lt h)
theorem placesF_fold : ∀ (ls : List (List Nat)) (k : Nat) (f : List Nat), placesF k ls f = (ls.zipIdx k).foldl (fun f p => placeL p.2 f p.1) f
  | [], _, _ => rfl
  | own :: r, k, f => by rw [List.zipIdx_cons, List.foldl_cons, placesF, placesF_fold r (k + 1)]
def rowP (fl : List (List Nat)) (m x : Nat) : List Nat := (List.range fl.length).map fun i => pl fl m i x
def rowsP (fl : List (List Nat)) (m : Nat) : List (List Nat) := (List.range m).map (rowP fl m)
end Pl
end
section
set_option maxHeartbeats 4000000
namespace Pl
def rowsS (n : Nat) : List (List Nat) := (List.range (n + 1)).foldl (fun rows _ => rows.foldl (fun longer own => longer ++ ((List.range (n + 1)).filter fun x => !own.contains x).map fun x => own ++ [x]) []) [[]]
def simplexP (n : Nat) : List (List Nat) := (List.range n).map fun i => (rowsS n).map fun own => (rowsS n).idxOf (own.take i ++ [own.getD (i + 1) 0, own.getD i 0] ++ own.drop (i + 2))
theorem simplex2_net : Net (simplexP 2) 6 := netB_ok (by decide +kernel)
theorem simplex3_net : Net (simplexP 3) 24 := netB_ok (by decide +kernel)
theorem small_net1 : Net [[1, 0]] 2 := netB_ok (by decide +kernel)
theorem small_net2 : ∀ k, k < 3 → Net (List.replicate (1 + k) [0]) 1
  | 0, _ => netB_ok (by decide +kernel)
  | 1, _ => netB_ok (by decide +kernel)
  | 2, _ => netB_ok (by decide +kernel)
  | k + 3, h => by omega
theorem zipIdx_first (x : Nat) : ∀ (ls : List (List Nat)) (s : Nat), (∃ l ∈ ls, x ∈ l) → ∃ t, ((ls.zipIdx s).filter fun p => p.1.contains x).map (fun p => p.2) = (s + idx ls x) :: t
  | [], _, h => by obtain ⟨l, h, _⟩ := h; cases h
  | l :: ls, s, h => by
    rw [List.zipIdx_cons, List.filter_cons]
    unfold idx
    rw [List.findIdx_cons]
    cases q : l.contains x with
    | true => exact ⟨_, by simp only [if_true, List.map_cons, cond_true, Nat.add_zero]; rfl⟩
    | false =>
      obtain ⟨t, e⟩ := zipIdx_first x ls (s + 1) (by
        obtain ⟨k, hk, hx⟩ := h
        rcases List.mem_cons.mp hk with rfl | hk
        · rw [List.contains_iff_mem.mpr hx] at q; cases q
        · exact ⟨k, hk, hx⟩)
      refine ⟨t, ?_⟩
      simp only [Bool.false_eq_true, if_false, cond_false]
      rw [e]
      unfold idx
      congr 1
      omega
end Pl
end
section
set_option maxHeartbeats 4000000
namespace K03
open PySem (Str Addr Value Expr Stmt Pos PyData)
open L2 (defBody defScope defArgs)
open Mi
def top (i : Nat) : Stmt := PySem.Challenge.pw_flagsflipped_k03_whole_faces_and_marks.main.body.getD i (.Pass ⟨0, 0, 0, 0⟩)
def mth (s : Stmt) (j : Nat) : Stmt := (C8.clsBody s).getD j (.Pass ⟨0, 0, 0, 0⟩)
def N_is_integer : List Str := ["value"]
def b_is_integer : TSm := (sRet (mAnd (m1 (fIsT .int) (mVar 0)) (mNot (m1 (fIsT .bl) (mVar 0)))))
def sp_is_integer : FSp := fSp b_is_integer 1 1
theorem d_is_integer {G : Gd} (hb : Bs G) (HC : ClsT G) (HT : IsT G) (HX : ExT G)  : ∀ A X, Bd 0 N_is_integer (defScope (top 6)) G.P G.w G.K G.mg G.base A X → MSs A X (defBody (top 6)) b_is_integer := by
  intro A X B0
  have B := B0.ct (by decide +kernel)
  exact (mss_one (ms_ret (me_and (k_isT B HT .int bb_int (hb.f "isinstance") (by decide +kernel) (hb.f "int") (by decide +kernel) (k_var B (i := 0) rfl (by decide +kernel))) (me_one (me_not (k_isT B HT .bl bb_bool (hb.f "isinstance") (by decide +kernel) (hb.f "bool") (by decide +kernel) (k_var B (i := 0) rfl (by decide +kernel))))))))
def N_is_count : List Str := ["value", "low", "high"]
def b_is_count : TSm := (sRet (mAnd (mCall sp_is_integer [] (aCons (mVar 0) aNil)) (mChain fLe fLe (mVar 1) (mVar 0) (mVar 2))))
def sp_is_count : FSp := fSp b_is_count 3 3
theorem d_is_count {G : Gd} (hb : Bs G) (HC : ClsT G) (HT : IsT G) (HX : ExT G) (r_is_integer : FnR G 1 "is_integer" sp_is_integer []) : ∀ A X, Bd 1 N_is_count (defScope (top 7)) G.P G.w G.K G.mg G.base A X → MSs A X (defBody (top 7)) b_is_count := by
  intro A X B0
  have B := B0.ct (by decide +kernel)
  exact (mss_one (ms_ret (me_and (k_call B r_is_integer (by decide) (by decide +kernel) (ma_cons (k_var B (i := 0) rfl (by decide +kernel)) ma_nil)) (me_one (me_chain B.fit c_le c_le (k_var B (i := 1) rfl (by decide +kernel)) (k_var B (i := 0) rfl (by decide +kernel)) (k_var B (i := 2) rfl (by decide +kernel)))))))
def N_is_rising : List Str := ["value", "low", "high", "x", "a", "b"]
def b_is_rising : TSm := (sSeq (sIf (bOr (bNot (mT (m1 (fIsT .tup) (mVar 0)))) (bNot (mT (m1 fAll (lF false (lComp [3] (iOf (mVar 0)) (gN 3) bYes (mCall sp_is_count [] (aCons (mVar 3) (aCons (mVar 1) (aCons (mVar 2) aNil)))))))))) (sRet (mCon (.bl false))) sNil) (sRet (m1 fAll (lF false (lComp [4, 5] (iZip (mVar 0) (mCut (mVar 0) (oAt (mCon (.int 1))) oNo)) (gT [(gN 4), (gN 5)]) bYes (m2 fLt (mVar 4) (mVar 5)))))))
def sp_is_rising : FSp := fSp b_is_rising 6 3
theorem d_is_rising {G : Gd} (hb : Bs G) (HC : ClsT G) (HT : IsT G) (HX : ExT G) (r_is_count : FnR G 2 "is_count" sp_is_count []) : ∀ A X, Bd 2 N_is_rising (defScope (top 8)) G.P G.w G.K G.mg G.base A X → MSs A X (defBody (top 8)) b_is_rising := by
  intro A X B0
  have B := B0.ct (by decide +kernel)
  exact (mss_cons (ms_if (mt_w (mw_or (mt_not (mt_val (k_isT B HT .tup bb_tuple (hb.f "isinstance") (by decide +kernel) (hb.f "tuple") (by decide +kernel) (k_var B (i := 0) rfl (by decide +kernel))))) (mw_or1 (mt_not (mt_val (me_all B.fit B.calm (B.b_all hb) (me_lF false (q_comp B [("x", 3)] (mi_of B.fit (k_var B (i := 0) rfl (by decide +kernel))) ⟨rfl, by decide +kernel, by decide +kernel, by decide +kernel, by decide +kernel⟩ (fun A1 X1 B1 => (k_gN B1.toCt rfl (by decide +kernel) rfl (.inr (by decide +kernel)))) (fun A1 X1 B1 => mts_nil) (fun A1 X1 B1 => (k_call B1.toCt r_is_count (by decide) (by decide +kernel) (ma_cons (k_var B1.toCt (i := 3) rfl (by decide +kernel)) (ma_cons (k_var B1.toCt (i := 1) rfl (by decide +kernel)) (ma_cons (k_var B1.toCt (i := 2) rfl (by decide +kernel)) ma_nil))))))))))))) (mss_one (ms_ret me_bl)) mss_nil) (mss_one (ms_ret (me_all B.fit B.calm (B.b_all hb) (me_lF false (q_comp B [("a", 4), ("b", 5)] (mi_zip B.fit (B.b_zip hb) (k_var B (i := 0) rfl (by decide +kernel)) (me_cut B.fit (k_var B (i := 0) rfl (by decide +kernel)) (mo_at me_int) mo_no)) ⟨rfl, by decide +kernel, by decide +kernel, by decide +kernel, by decide +kernel⟩ (fun A1 X1 B1 => (mg_tup B1.toCt.fit B1.toCt.calm (mgs_cons (k_gN B1.toCt rfl (by decide +kernel) rfl (.inr (by decide +kernel))) (mgs_cons (k_gN B1.toCt rfl (by decide +kernel) rfl (.inr (by decide +kernel))) mgs_nil)))) (fun A1 X1 B1 => mts_nil) (fun A1 X1 B1 => (me_cmp B1.toCt.fit c_lt (k_var B1.toCt (i := 4) rfl (by decide +kernel)) (k_var B1.toCt (i := 5) rfl (by decide +kernel)) (by rfl)))))))))
def N_check_count : List Str := ["value", "low", "high"]
def b_check_count : TSm := (sIf (bNot (mT (mCall sp_is_count [] (aCons (mVar 0) (aCons (mVar 1) (aCons (mVar 2) aNil)))))) (sRaise "Malformed" "reason" (mCon (.str "a number"))) sNil)
def sp_check_count : FSp := fSp b_check_count 3 3
theorem d_check_count {G : Gd} (hb : Bs G) (HC : ClsT G) (HT : IsT G) (HX : ExT G) (x_Malformed : ExR G 1 "Malformed" "reason") (r_is_count : FnR G 2 "is_count" sp_is_count []) : ∀ A X, Bd 2 N_check_count (defScope (top 9)) G.P G.w G.K G.mg G.base A X → MSs A X (defBody (top 9)) b_check_count := by
  intro A X B0
  have B := B0.ct (by decide +kernel)
  exact (mss_one (ms_if (mt_not (mt_val (k_call B r_is_count (by decide) (by decide +kernel) (ma_cons (k_var B (i := 0) rfl (by decide +kernel)) (ma_cons (k_var B (i := 1) rfl (by decide +kernel)) (ma_cons (k_var B (i := 2) rfl (by decide +kernel)) ma_nil)))))) (mss_one (k_raise B x_Malformed (by decide) (by decide +kernel) me_str)) mss_nil))
def N_is_order : List Str := ["value", "m", "x"]
def b_is_order : TSm := (sSeq (sIf (bOr (bNot (mT (m1 (fIsT .tup) (mVar 0)))) (bNot (mT (mChain fLe fLe (mCon (.int 1)) (m1 fLen (mVar 0)) (mCon (.int 4000)))))) (sRet (mCon (.bl false))) sNil) (sSeq (sAsg (m1 fLen (mVar 0)) (gN 1)) (sSeq (sIf (bNot (mT (m1 fAll (lF false (lComp [2] (iOf (mVar 0)) (gN 2) bYes (mCall sp_is_count [] (aCons (mVar 2) (aCons (mCon (.int 0)) (aCons (m2 fSub (mVar 1) (mCon (.int 1))) aNil))))))))) (sRet (mCon (.bl false))) sNil) (sRet (m2 fEq (m1 fLenSet (mVar 0)) (mVar 1))))))
def sp_is_order : FSp := fSp b_is_order 3 1
theorem d_is_order {G : Gd} (hb : Bs G) (HC : ClsT G) (HT : IsT G) (HX : ExT G) (h_MOST_THINGS : ∃ t, G.mg "MOST_THINGS" = some (.int 4000 t)) (r_is_count : FnR G 2 "is_count" sp_is_count []) : ∀ A X, Bd 2 N_is_order (defScope (top 12)) G.P G.w G.K G.mg G.base A X → MSs A X (defBody (top 12)) b_is_order := by
  intro A X B0
  have B := B0.ct (by decide +kernel)
  exact (mss_cons (ms_if (mt_w (mw_or (mt_not (mt_val (k_isT B HT .tup bb_tuple (hb.f "isinstance") (by decide +kernel) (hb.f "tuple") (by decide +kernel) (k_var B (i := 0) rfl (by decide +kernel))))) (mw_or1 (mt_not (mt_chain B.fit c_le c_le me_int (me_len B.fit (B.b_len hb) (k_var B (i := 0) rfl (by decide +kernel))) (k_gint B h_MOST_THINGS (by decide +kernel))))))) (mss_one (ms_ret me_bl)) mss_nil) (mss_cons (k_set B rfl (by decide +kernel) (.inl (B0.fn _)) (me_len B.fit (B.b_len hb) (k_var B (i := 0) rfl (by decide +kernel)))) (mss_cons (ms_if (mt_not (mt_val (me_all B.fit B.calm (B.b_all hb) (me_lF false (q_comp B [("x", 2)] (mi_of B.fit (k_var B (i := 0) rfl (by decide +kernel))) ⟨rfl, by decide +kernel, by decide +kernel, by decide +kernel, by decide +kernel⟩ (fun A1 X1 B1 => (k_gN B1.toCt rfl (by decide +kernel) rfl (.inr (by decide +kernel)))) (fun A1 X1 B1 => mts_nil) (fun A1 X1 B1 => (k_call B1.toCt r_is_count (by decide) (by decide +kernel) (ma_cons (k_var B1.toCt (i := 2) rfl (by decide +kernel)) (ma_cons me_int (ma_cons (me_sub B1.toCt.fit (k_var B1.toCt (i := 1) rfl (by decide +kernel)) me_int) ma_nil)))))))))) (mss_one (ms_ret me_bl)) mss_nil) (mss_one (ms_ret (me_cmp B.fit (c_eq B.u64) (me_lenSet B.fit B.calm B.u200 (B.b_len hb) (B.b_set hb) (k_var B (i := 0) rfl (by decide +kernel))) (k_var B (i := 1) rfl (by decide +kernel)) (by rfl)))))))
def N_then : List Str := ["one", "two", "x"]
def b_then : TSm := (sRet (m1 fTup (lF false (lComp [2] (iOf (mVar 0)) (gN 2) bYes (m2 fIdx (mVar 1) (mVar 2))))))
def sp_then : FSp := fSp b_then 3 2
theorem d_then {G : Gd} (hb : Bs G) (HC : ClsT G) (HT : IsT G) (HX : ExT G)  : ∀ A X, Bd 0 N_then (defScope (top 13)) G.P G.w G.K G.mg G.base A X → MSs A X (defBody (top 13)) b_then := by
  intro A X B0
  have B := B0.ct (by decide +kernel)
  exact (mss_one (ms_ret (me_tupOf B.fit (B.b_tuple hb) (me_lF false (q_comp B [("x", 2)] (mi_of B.fit (k_var B (i := 0) rfl (by decide +kernel))) ⟨rfl, by decide +kernel, by decide +kernel, by decide +kernel, by decide +kernel⟩ (fun A1 X1 B1 => (k_gN B1.toCt rfl (by decide +kernel) rfl (.inr (by decide +kernel)))) (fun A1 X1 B1 => mts_nil) (fun A1 X1 B1 => (me_idx B1.toCt.fit (k_var B1.toCt (i := 1) rfl (by decide +kernel)) (k_var B1.toCt (i := 2) rfl (by decide +kernel)))))))))
def N_joined_lots : List Str := ["makers", "m", "seen", "found", "x", "line", "at", "own", "y"]
def b_joined_lots : TSm := (sSeq (sPar 2 3 (aCons (lF true (l2 fRepL (lF false (lDisp (aCons (mCon (.bl false)) aNil))) (mVar 1))) (aCons (lF true (lDisp aNil)) aNil))) (sSeq (sFor (iRg1 (mVar 1)) (gN 4) (sIf (bNot (mT (m2 fIdx (mVar 2) (mVar 4)))) (sSeq (sAsg (mCon (.bl true)) (gSub (mVar 2) (mVar 4))) (sSeq (sPar 5 6 (aCons (lF true (lDisp (aCons (mVar 4) aNil))) (aCons (mCon (.int 0)) aNil))) (sSeq (sWhile (mT (m2 fLt (mVar 6) (m1 fLen (mVar 5)))) (sSeq (sFor (iOf (mVar 0)) (gN 7) (sSeq (sAsg (m2 fIdx (mVar 7) (m2 fIdx (mVar 5) (mVar 6))) (gN 8)) (sIf (bNot (mT (m2 fIdx (mVar 2) (mVar 8)))) (sSeq (sAsg (mCon (.bl true)) (gSub (mVar 2) (mVar 8))) (sExpr (mMut fApp (mVar 5) (aCons (mVar 8) aNil)))) sNil))) (sAsg (m2 fAdd (mVar 6) (mCon (.int 1))) (gN 6)))) (sExpr (mMut fApp (mVar 3) (aCons (m1 fTup (lF false (l1 fSrt (mVar 5)))) aNil)))))) sNil)) (sRet (m1 fTup (mVar 3)))))
def sp_joined_lots : FSp := fSp b_joined_lots 9 2
theorem d_joined_lots {G : Gd} (hb : Bs G) (HC : ClsT G) (HT : IsT G) (HX : ExT G)  : ∀ A X, Bd 0 N_joined_lots (defScope (top 14)) G.P G.w G.K G.mg G.base A X → MSs A X (defBody (top 14)) b_joined_lots := by
  intro A X B0
  have B := B0.ct (by decide +kernel)
  exact (mss_cons (k_par B rfl rfl (by decide) (by decide +kernel) (by decide +kernel) (ma_cons (me_lF true (ml_rep B.fit (me_lF false (ml_disp (ma_cons me_bl ma_nil))) (k_var B (i := 1) rfl (by decide +kernel)))) (ma_cons (me_lF true (ml_disp ma_nil)) ma_nil)) (fun E h => by cases E; subst h; rfl)) (mss_cons (ms_for (vs := [4]) B0.po B.calm (mi_rg1 B.fit (B.b_range hb) (k_var B (i := 1) rfl (by decide +kernel))) (k_gN B rfl (by decide +kernel) rfl (.inr (by decide +kernel))) (mss_one (ms_if (mt_not (mt_val (me_idx B.fit (k_var B (i := 2) rfl (by decide +kernel)) (k_var B (i := 4) rfl (by decide +kernel))))) (mss_cons (ms_asg (vs := []) me_bl (mg_sub (k_var B.nox (i := 2) rfl (by decide +kernel)) (k_var B.nox (i := 4) rfl (by decide +kernel)))) (mss_cons (k_par B rfl rfl (by decide) (by decide +kernel) (by decide +kernel) (ma_cons (me_lF true (ml_disp (ma_cons (k_var B (i := 4) rfl (by decide +kernel)) ma_nil))) (ma_cons me_int ma_nil)) (fun E h => by cases E; subst h; rfl)) (mss_cons (ms_while B0.po (mt_cmp B.fit c_lt (k_var B (i := 6) rfl (by decide +kernel)) (me_len B.fit (B.b_len hb) (k_var B (i := 5) rfl (by decide +kernel))) (by rfl)) (mss_cons (ms_for (vs := [7]) B0.po B.calm (mi_of B.fit (k_var B (i := 0) rfl (by decide +kernel))) (k_gN B rfl (by decide +kernel) rfl (.inr (by decide +kernel))) (mss_cons (k_set B rfl (by decide +kernel) (.inr (by decide +kernel)) (me_idx B.fit (k_var B (i := 7) rfl (by decide +kernel)) (me_idx B.fit (k_var B (i := 5) rfl (by decide +kernel)) (k_var B (i := 6) rfl (by decide +kernel))))) (mss_one (ms_if (mt_not (mt_val (me_idx B.fit (k_var B (i := 2) rfl (by decide +kernel)) (k_var B (i := 8) rfl (by decide +kernel))))) (mss_cons (ms_asg (vs := []) me_bl (mg_sub (k_var B.nox (i := 2) rfl (by decide +kernel)) (k_var B.nox (i := 8) rfl (by decide +kernel)))) (mss_one (ms_expr (me_app B.fit (k_var B (i := 5) rfl (by decide +kernel)) (ma_cons (k_var B (i := 8) rfl (by decide +kernel)) ma_nil))))) mss_nil)))) (mss_one (k_set B rfl (by decide +kernel) (.inr (by decide +kernel)) (me_add B.fit (k_var B (i := 6) rfl (by decide +kernel)) me_int))))) (mss_one (ms_expr (me_app B.fit (k_var B (i := 3) rfl (by decide +kernel)) (ma_cons (me_tupOf B.fit (B.b_tuple hb) (me_lF false (ml_srt B.fit B.u200 (B.b_sorted hb) (k_var B (i := 5) rfl (by decide +kernel))))) ma_nil))))))) mss_nil))) (mss_one (ms_ret (me_tupOf B.fit (B.b_tuple hb) (k_var B (i := 3) rfl (by decide +kernel)))))))
def N_go_together : List Str := ["flips", "i", "one", "two"]
def b_go_together : TSm := (sSeq (sFor (iEnTu (mVar 0)) (gT [(gN 1), (gN 2)]) (sFor (iOf (mCut (mVar 0) (oAt (m2 fAdd (mVar 1) (mCon (.int 2)))) oNo)) (gN 3) (sIf (mT (m2 fNe (mCall sp_then [] (aCons (mVar 2) (aCons (mVar 3) aNil))) (mCall sp_then [] (aCons (mVar 3) (aCons (mVar 2) aNil))))) (sRet (mCon (.bl false))) sNil))) (sRet (mCon (.bl true))))
def sp_go_together : FSp := fSp b_go_together 4 1
theorem d_go_together {G : Gd} (hb : Bs G) (HC : ClsT G) (HT : IsT G) (HX : ExT G) (r_then : FnR G 1 "then" sp_then []) : ∀ A X, Bd 1 N_go_together (defScope (top 17)) G.P G.w G.K G.mg G.base A X → MSs A X (defBody (top 17)) b_go_together := by
  intro A X B0
  have B := B0.ct (by decide +kernel)
  exact (mss_cons (ms_for (vs := [1, 2]) B0.po B.calm (mi_enT B.fit (B.b_enumerate hb) (k_var B (i := 0) rfl (by decide +kernel))) (mg_tup B.fit B.calm (mgs_cons (k_gN B rfl (by decide +kernel) rfl (.inr (by decide +kernel))) (mgs_cons (k_gN B rfl (by decide +kernel) rfl (.inr (by decide +kernel))) mgs_nil))) (mss_one (ms_for (vs := [3]) B0.po B.calm (mi_of B.fit (me_cut B.fit (k_var B (i := 0) rfl (by decide +kernel)) (mo_at (me_add B.fit (k_var B (i := 1) rfl (by decide +kernel)) me_int)) mo_no)) (k_gN B rfl (by decide +kernel) rfl (.inr (by decide +kernel))) (mss_one (ms_if (mt_cmp B.fit (c_ne B.u64) (k_call B r_then (by decide) (by decide +kernel) (ma_cons (k_var B (i := 2) rfl (by decide +kernel)) (ma_cons (k_var B (i := 3) rfl (by decide +kernel)) ma_nil))) (k_call B r_then (by decide) (by decide +kernel) (ma_cons (k_var B (i := 3) rfl (by decide +kernel)) (ma_cons (k_var B (i := 2) rfl (by decide +kernel)) ma_nil))) (by rfl)) (mss_one (ms_ret me_bl)) mss_nil))))) (mss_one (ms_ret me_bl)))
def N_are_flips : List Str := ["value", "m", "own"]
def b_are_flips : TSm := (sSeq (sIf (bOr (bNot (mT (m1 (fIsT .tup) (mVar 0)))) (bOr (bNot (mT (mChain fLe fLe (mCon (.int 1)) (m1 fLen (mVar 0)) (mCon (.int 6))))) (bNot (mT (m1 fAll (lF false (lComp [2] (iOf (mVar 0)) (gN 2) bYes (mCall sp_is_order [] (aCons (mVar 2) aNil))))))))) (sRet (mCon (.bl false))) sNil) (sSeq (sAsg (m1 fLen (m2 fIdx (mVar 0) (mCon (.int 0)))) (gN 1)) (sSeq (sIf (bOr (bNot (mT (m1 fAll (lF false (lComp [2] (iOf (mVar 0)) (gN 2) bYes (m2 fEq (m1 fLen (mVar 2)) (mVar 1))))))) (bNot (mT (m1 fAll (lF false (lComp [2] (iOf (mVar 0)) (gN 2) bYes (m2 fEq (mCall sp_then [] (aCons (mVar 2) (aCons (mVar 2) aNil))) (mRange (r1 (mVar 1)))))))))) (sRet (mCon (.bl false))) sNil) (sRet (mAnd (mCall sp_go_together [] (aCons (mVar 0) aNil)) (m2 fEq (m1 fLen (mCall sp_joined_lots [] (aCons (mVar 0) (aCons (mVar 1) aNil)))) (mCon (.int 1))))))))
def sp_are_flips : FSp := fSp b_are_flips 3 1
theorem d_are_flips {G : Gd} (hb : Bs G) (HC : ClsT G) (HT : IsT G) (HX : ExT G) (h_MOST_RANK : ∃ t, G.mg "MOST_RANK" = some (.int 6 t)) (r_go_together : FnR G 2 "go_together" sp_go_together []) (r_is_order : FnR G 3 "is_order" sp_is_order []) (r_joined_lots : FnR G 1 "joined_lots" sp_joined_lots []) (r_then : FnR G 1 "then" sp_then []) : ∀ A X, Bd 3 N_are_flips (defScope (top 18)) G.P G.w G.K G.mg G.base A X → MSs A X (defBody (top 18)) b_are_flips := by
  intro A X B0
  have B := B0.ct (by decide +kernel)
  exact (mss_cons (ms_if (mt_w (mw_or (mt_not (mt_val (k_isT B HT .tup bb_tuple (hb.f "isinstance") (by decide +kernel) (hb.f "tuple") (by decide +kernel) (k_var B (i := 0) rfl (by decide +kernel))))) (mw_or (mt_not (mt_chain B.fit c_le c_le me_int (me_len B.fit (B.b_len hb) (k_var B (i := 0) rfl (by decide +kernel))) (k_gint B h_MOST_RANK (by decide +kernel)))) (mw_or1 (mt_not (mt_val (me_all B.fit B.calm (B.b_all hb) (me_lF false (q_comp B [("own", 2)] (mi_of B.fit (k_var B (i := 0) rfl (by decide +kernel))) ⟨rfl, by decide +kernel, by decide +kernel, by decide +kernel, by decide +kernel⟩ (fun A1 X1 B1 => (k_gN B1.toCt rfl (by decide +kernel) rfl (.inr (by decide +kernel)))) (fun A1 X1 B1 => mts_nil) (fun A1 X1 B1 => (k_call B1.toCt r_is_order (by decide) (by decide +kernel) (ma_cons (k_var B1.toCt (i := 2) rfl (by decide +kernel)) ma_nil)))))))))))) (mss_one (ms_ret me_bl)) mss_nil) (mss_cons (k_set B rfl (by decide +kernel) (.inl (B0.fn _)) (me_len B.fit (B.b_len hb) (me_idx B.fit (k_var B (i := 0) rfl (by decide +kernel)) me_int))) (mss_cons (ms_if (mt_w (mw_or (mt_not (mt_val (me_all B.fit B.calm (B.b_all hb) (me_lF false (q_comp B [("own", 2)] (mi_of B.fit (k_var B (i := 0) rfl (by decide +kernel))) ⟨rfl, by decide +kernel, by decide +kernel, by decide +kernel, by decide +kernel⟩ (fun A1 X1 B1 => (k_gN B1.toCt rfl (by decide +kernel) rfl (.inr (by decide +kernel)))) (fun A1 X1 B1 => mts_nil) (fun A1 X1 B1 => (me_cmp B1.toCt.fit (c_eq B1.toCt.u64) (me_len B1.toCt.fit (B1.toCt.b_len hb) (k_var B1.toCt (i := 2) rfl (by decide +kernel))) (k_var B1.toCt (i := 1) rfl (by decide +kernel)) (by rfl)))))))) (mw_or1 (mt_not (mt_val (me_all B.fit B.calm (B.b_all hb) (me_lF false (q_comp B [("own", 2)] (mi_of B.fit (k_var B (i := 0) rfl (by decide +kernel))) ⟨rfl, by decide +kernel, by decide +kernel, by decide +kernel, by decide +kernel⟩ (fun A1 X1 B1 => (k_gN B1.toCt rfl (by decide +kernel) rfl (.inr (by decide +kernel)))) (fun A1 X1 B1 => mts_nil) (fun A1 X1 B1 => (me_cmp B1.toCt.fit (c_eq B1.toCt.u64) (k_call B1.toCt r_then (by decide) (by decide +kernel) (ma_cons (k_var B1.toCt (i := 2) rfl (by decide +kernel)) (ma_cons (k_var B1.toCt (i := 2) rfl (by decide +kernel)) ma_nil))) (me_range B1.toCt.calm (B1.toCt.b_tuple hb) (mr_1 (B1.toCt.b_range hb) (k_var B1.toCt (i := 1) rfl (by decide +kernel)))) (by rfl))))))))))) (mss_one (ms_ret me_bl)) mss_nil) (mss_one (ms_ret (me_and (k_call B r_go_together (by decide) (by decide +kernel) (ma_cons (k_var B (i := 0) rfl (by decide +kernel)) ma_nil)) (me_one (me_cmp B.fit (c_eq B.u64) (me_len B.fit (B.b_len hb) (k_call B r_joined_lots (by decide) (by decide +kernel) (ma_cons (k_var B (i := 0) rfl (by decide +kernel)) (ma_cons (k_var B (i := 1) rfl (by decide +kernel)) ma_nil)))) me_int (by rfl)))))))))
def N_Net_init : List Str := ["self", "flips"]
def b_Net_init : TSm := (sSeq (sIf (bNot (mT (mCall sp_are_flips [] (aCons (mVar 1) aNil)))) (sRaise "Malformed" "reason" (mCon (.str "flips"))) sNil) (sSeq (sFld "flips" (mVar 0) (mVar 1)) (sSeq (sFld "rank" (mVar 0) (m1 fLen (mVar 1))) (sFld "many" (mVar 0) (m1 fLen (m2 fIdx (mVar 1) (mCon (.int 0))))))))
def sp_Net_init : FSp := fSp b_Net_init 2 2
theorem d_Net_init {G : Gd} (hb : Bs G) (HC : ClsT G) (HT : IsT G) (HX : ExT G) (x_Malformed : ExR G 1 "Malformed" "reason") (r_are_flips : FnR G 4 "are_flips" sp_are_flips []) : ∀ A X, Bd 4 N_Net_init (defScope (mth (top 19) 0)) G.P G.w G.K G.mg G.base A X → MSs A X (defBody (mth (top 19) 0)) b_Net_init := by
  intro A X B0
  have B := B0.ct (by decide +kernel)
  exact (mss_cons (ms_if (mt_not (mt_val (k_call B r_are_flips (by decide) (by decide +kernel) (ma_cons (k_var B (i := 1) rfl (by decide +kernel)) ma_nil)))) (mss_one (k_raise B x_Malformed (by decide) (by decide +kernel) me_str)) mss_nil) (mss_cons (k_sfld B HC (k_var B (i := 0) rfl (by decide +kernel)) (k_var B (i := 1) rfl (by decide +kernel))) (mss_cons (k_sfld B HC (k_var B (i := 0) rfl (by decide +kernel)) (me_len B.fit (B.b_len hb) (k_var B (i := 1) rfl (by decide +kernel)))) (mss_one (k_sfld B HC (k_var B (i := 0) rfl (by decide +kernel)) (me_len B.fit (B.b_len hb) (me_idx B.fit (k_var B (i := 1) rfl (by decide +kernel)) me_int)))))))
def N_check_net : List Str := ["value"]
def b_check_net : TSm := (sIf (bNot (mT (m1 (fIsC "Net") (mVar 0)))) (sRaise "Malformed" "reason" (mCon (.str "a net"))) sNil)
def sp_check_net : FSp := fSp b_check_net 1 1
theorem d_check_net {G : Gd} (hb : Bs G) (HC : ClsT G) (HT : IsT G) (HX : ExT G) (x_Malformed : ExR G 1 "Malformed" "reason") (h_Net : ∃ C, G.mg "Net" = some (.ref C)) : ∀ A X, Bd 2 N_check_net (defScope (top 20)) G.P G.w G.K G.mg G.base A X → MSs A X (defBody (top 20)) b_check_net := by
  intro A X B0
  have B := B0.ct (by decide +kernel)
  exact (mss_one (ms_if (mt_not (mt_val (k_isC B HT (hb.f "isinstance") (by decide +kernel) h_Net (by decide +kernel) (k_var B (i := 0) rfl (by decide +kernel))))) (mss_one (k_raise B x_Malformed (by decide) (by decide +kernel) me_str)) mss_nil))
def N_check_flag : List Str := ["net", "flag"]
def b_check_flag : TSm := (sSeq (sExpr (mCall sp_check_net [] (aCons (mVar 0) aNil))) (sExpr (mCall sp_check_count [] (aCons (mVar 1) (aCons (mCon (.int 0)) (aCons (m2 fSub (m1 (fFld "many") (mVar 0)) (mCon (.int 1))) aNil))))))
def sp_check_flag : FSp := fSp b_check_flag 2 2
theorem d_check_flag {G : Gd} (hb : Bs G) (HC : ClsT G) (HT : IsT G) (HX : ExT G) (r_check_count : FnR G 3 "check_count" sp_check_count []) (r_check_net : FnR G 3 "check_net" sp_check_net []) : ∀ A X, Bd 3 N_check_flag (defScope (top 21)) G.P G.w G.K G.mg G.base A X → MSs A X (defBody (top 21)) b_check_flag := by
  intro A X B0
  have B := B0.ct (by decide +kernel)
  exact (mss_cons (ms_expr (k_call B r_check_net (by decide) (by decide +kernel) (ma_cons (k_var B (i := 0) rfl (by decide +kernel)) ma_nil))) (mss_one (ms_expr (k_call B r_check_count (by decide) (by decide +kernel) (ma_cons (k_var B (i := 1) rfl (by decide +kernel)) (ma_cons me_int (ma_cons (me_sub B.fit (k_fld B HC (k_var B (i := 0) rfl (by decide +kernel))) me_int) ma_nil)))))))
def N_check_kept : List Str := ["net", "kept"]
def b_check_kept : TSm := (sSeq (sExpr (mCall sp_check_net [] (aCons (mVar 0) aNil))) (sIf (bNot (mT (mCall sp_is_rising [] (aCons (mVar 1) (aCons (mCon (.int 0)) (aCons (m2 fSub (m1 (fFld "rank") (mVar 0)) (mCon (.int 1))) aNil)))))) (sRaise "Malformed" "reason" (mCon (.str "flips"))) sNil))
def sp_check_kept : FSp := fSp b_check_kept 2 2
theorem d_check_kept {G : Gd} (hb : Bs G) (HC : ClsT G) (HT : IsT G) (HX : ExT G) (x_Malformed : ExR G 1 "Malformed" "reason") (r_check_net : FnR G 3 "check_net" sp_check_net []) (r_is_rising : FnR G 3 "is_rising" sp_is_rising []) : ∀ A X, Bd 3 N_check_kept (defScope (top 23)) G.P G.w G.K G.mg G.base A X → MSs A X (defBody (top 23)) b_check_kept := by
  intro A X B0
  have B := B0.ct (by decide +kernel)
  exact (mss_cons (ms_expr (k_call B r_check_net (by decide) (by decide +kernel) (ma_cons (k_var B (i := 0) rfl (by decide +kernel)) ma_nil))) (mss_one (ms_if (mt_not (mt_val (k_call B r_is_rising (by decide) (by decide +kernel) (ma_cons (k_var B (i := 1) rfl (by decide +kernel)) (ma_cons me_int (ma_cons (me_sub B.fit (k_fld B HC (k_var B (i := 0) rfl (by decide +kernel))) me_int) ma_nil)))))) (mss_one (k_raise B x_Malformed (by decide) (by decide +kernel) me_str)) mss_nil)))
def N_plain_components : List Str := ["flips", "kept", "i"]
def b_plain_components : TSm := (sRet (mCall sp_joined_lots [] (aCons (lF false (lComp [2] (iOf (mVar 1)) (gN 2) bYes (m2 fIdx (mVar 0) (mVar 2)))) (aCons (m1 fLen (m2 fIdx (mVar 0) (mCon (.int 0)))) aNil))))
def sp_plain_components : FSp := fSp b_plain_components 3 2
theorem d_plain_components {G : Gd} (hb : Bs G) (HC : ClsT G) (HT : IsT G) (HX : ExT G) (r_joined_lots : FnR G 1 "joined_lots" sp_joined_lots []) : ∀ A X, Bd 1 N_plain_components (defScope (top 24)) G.P G.w G.K G.mg G.base A X → MSs A X (defBody (top 24)) b_plain_components := by
  intro A X B0
  have B := B0.ct (by decide +kernel)
  exact (mss_one (ms_ret (k_call B r_joined_lots (by decide) (by decide +kernel) (ma_cons (me_lF false (q_comp B [("i", 2)] (mi_of B.fit (k_var B (i := 1) rfl (by decide +kernel))) ⟨rfl, by decide +kernel, by decide +kernel, by decide +kernel, by decide +kernel⟩ (fun A1 X1 B1 => (k_gN B1.toCt rfl (by decide +kernel) rfl (.inr (by decide +kernel)))) (fun A1 X1 B1 => mts_nil) (fun A1 X1 B1 => (me_idx B1.toCt.fit (k_var B1.toCt (i := 0) rfl (by decide +kernel)) (k_var B1.toCt (i := 2) rfl (by decide +kernel)))))) (ma_cons (me_len B.fit (B.b_len hb) (me_idx B.fit (k_var B (i := 0) rfl (by decide +kernel)) me_int)) ma_nil)))))
def N_components : List Str := ["net", "kept"]
def b_components : TSm := (sSeq (sExpr (mCall sp_check_kept [] (aCons (mVar 0) (aCons (mVar 1) aNil)))) (sRet (mCall sp_plain_components [] (aCons (m1 (fFld "flips") (mVar 0)) (aCons (mVar 1) aNil)))))
def sp_components : FSp := fSp b_components 2 2
theorem d_components {G : Gd} (hb : Bs G) (HC : ClsT G) (HT : IsT G) (HX : ExT G) (r_check_kept : FnR G 4 "check_kept" sp_check_kept []) (r_plain_components : FnR G 2 "plain_components" sp_plain_components []) : ∀ A X, Bd 4 N_components (defScope (top 25)) G.P G.w G.K G.mg G.base A X → MSs A X (defBody (top 25)) b_components := by
  intro A X B0
  have B := B0.ct (by decide +kernel)
  exact (mss_cons (ms_expr (k_call B r_check_kept (by decide) (by decide +kernel) (ma_cons (k_var B (i := 0) rfl (by decide +kernel)) (ma_cons (k_var B (i := 1) rfl (by decide +kernel)) ma_nil)))) (mss_one (ms_ret (k_call B r_plain_components (by decide) (by decide +kernel) (ma_cons (k_fld B HC (k_var B (i := 0) rfl (by decide +kernel))) (ma_cons (k_var B (i := 1) rfl (by decide +kernel)) ma_nil))))))
def N_places_in : List Str := ["lots", "m", "found", "k", "own", "x"]
def b_places_in : TSm := (sSeq (sAsg (lF true (l2 fRepL (lF false (lDisp (aCons (mCon (.int 0)) aNil))) (mVar 1))) (gN 2)) (sSeq (sFor (iEnTu (mVar 0)) (gT [(gN 3), (gN 4)]) (sFor (iOf (mVar 4)) (gN 5) (sAsg (mVar 3) (gSub (mVar 2) (mVar 5))))) (sRet (mVar 2))))
def sp_places_in : FSp := fSp b_places_in 6 2
theorem d_places_in {G : Gd} (hb : Bs G) (HC : ClsT G) (HT : IsT G) (HX : ExT G)  : ∀ A X, Bd 0 N_places_in (defScope (top 26)) G.P G.w G.K G.mg G.base A X → MSs A X (defBody (top 26)) b_places_in := by
  intro A X B0
  have B := B0.ct (by decide +kernel)
  exact (mss_cons (k_set B rfl (by decide +kernel) (.inr (by decide +kernel)) (me_lF true (ml_rep B.fit (me_lF false (ml_disp (ma_cons me_int ma_nil))) (k_var B (i := 1) rfl (by decide +kernel))))) (mss_cons (ms_for (vs := [3, 4]) B0.po B.calm (mi_enT B.fit (B.b_enumerate hb) (k_var B (i := 0) rfl (by decide +kernel))) (mg_tup B.fit B.calm (mgs_cons (k_gN B rfl (by decide +kernel) rfl (.inr (by decide +kernel))) (mgs_cons (k_gN B rfl (by decide +kernel) rfl (.inr (by decide +kernel))) mgs_nil))) (mss_one (ms_for (vs := [5]) B0.po B.calm (mi_of B.fit (k_var B (i := 4) rfl (by decide +kernel))) (k_gN B rfl (by decide +kernel) rfl (.inr (by decide +kernel))) (mss_one (ms_asg (vs := []) (k_var B (i := 3) rfl (by decide +kernel)) (mg_sub (k_var B.nox (i := 2) rfl (by decide +kernel)) (k_var B.nox (i := 5) rfl (by decide +kernel)))))))) (mss_one (ms_ret (k_var B (i := 2) rfl (by decide +kernel))))))
def N_faces : List Str := ["net", "i", "j"]
def b_faces : TSm := (sSeq (sExpr (mCall sp_check_net [] (aCons (mVar 0) aNil))) (sSeq (sExpr (mCall sp_check_count [] (aCons (mVar 1) (aCons (mCon (.int 0)) (aCons (m2 fSub (m1 (fFld "rank") (mVar 0)) (mCon (.int 1))) aNil))))) (sRet (mCall sp_plain_components [] (aCons (m1 (fFld "flips") (mVar 0)) (aCons (lF false (lComp [2] (iRg1 (m1 (fFld "rank") (mVar 0))) (gN 2) (mT (m2 fNe (mVar 2) (mVar 1))) (mVar 2))) aNil))))))
def sp_faces : FSp := fSp b_faces 3 2
theorem d_faces {G : Gd} (hb : Bs G) (HC : ClsT G) (HT : IsT G) (HX : ExT G) (r_check_count : FnR G 3 "check_count" sp_check_count []) (r_check_net : FnR G 3 "check_net" sp_check_net []) (r_plain_components : FnR G 2 "plain_components" sp_plain_components []) : ∀ A X, Bd 3 N_faces (defScope (top 27)) G.P G.w G.K G.mg G.base A X → MSs A X (defBody (top 27)) b_faces := by
  intro A X B0
  have B := B0.ct (by decide +kernel)
  exact (mss_cons (ms_expr (k_call B r_check_net (by decide) (by decide +kernel) (ma_cons (k_var B (i := 0) rfl (by decide +kernel)) ma_nil))) (mss_cons (ms_expr (k_call B r_check_count (by decide) (by decide +kernel) (ma_cons (k_var B (i := 1) rfl (by decide +kernel)) (ma_cons me_int (ma_cons (me_sub B.fit (k_fld B HC (k_var B (i := 0) rfl (by decide +kernel))) me_int) ma_nil))))) (mss_one (ms_ret (k_call B r_plain_components (by decide) (by decide +kernel) (ma_cons (k_fld B HC (k_var B (i := 0) rfl (by decide +kernel))) (ma_cons (me_lF false (q_comp B [("j", 2)] (mi_rg1 B.fit (B.b_range hb) (k_fld B HC (k_var B (i := 0) rfl (by decide +kernel)))) ⟨rfl, by decide +kernel, by decide +kernel, by decide +kernel, by decide +kernel⟩ (fun A1 X1 B1 => (k_gN B1.toCt rfl (by decide +kernel) rfl (.inr (by decide +kernel)))) (fun A1 X1 B1 => (mts_one (mt_cmp B1.toCt.fit (c_ne B1.toCt.u64) (k_var B1.toCt (i := 2) rfl (by decide +kernel)) (k_var B1.toCt (i := 1) rfl (by decide +kernel)) (by rfl)))) (fun A1 X1 B1 => (k_var B1.toCt (i := 2) rfl (by decide +kernel))))) ma_nil)))))))
def N_face_places : List Str := ["net", "i"]
def b_face_places : TSm := (sRet (mCall sp_places_in [] (aCons (mCall sp_faces [] (aCons (mVar 0) (aCons (mVar 1) aNil))) (aCons (m1 (fFld "many") (mVar 0)) aNil))))
def sp_face_places : FSp := fSp b_face_places 2 2
theorem d_face_places {G : Gd} (hb : Bs G) (HC : ClsT G) (HT : IsT G) (HX : ExT G) (r_faces : FnR G 4 "faces" sp_faces []) (r_places_in : FnR G 1 "places_in" sp_places_in []) : ∀ A X, Bd 4 N_face_places (defScope (top 28)) G.P G.w G.K G.mg G.base A X → MSs A X (defBody (top 28)) b_face_places := by
  intro A X B0
  have B := B0.ct (by decide +kernel)
  exact (mss_one (ms_ret (k_call B r_places_in (by decide) (by decide +kernel) (ma_cons (k_call B r_faces (by decide) (by decide +kernel) (ma_cons (k_var B (i := 0) rfl (by decide +kernel)) (ma_cons (k_var B (i := 1) rfl (by decide +kernel)) ma_nil))) (ma_cons (k_fld B HC (k_var B (i := 0) rfl (by decide +kernel))) ma_nil)))))
def N_face_of : List Str := ["net", "i", "flag"]
def b_face_of : TSm := (sSeq (sExpr (mCall sp_check_flag [] (aCons (mVar 0) (aCons (mVar 2) aNil)))) (sSeq (sExpr (mCall sp_check_count [] (aCons (mVar 1) (aCons (mCon (.int 0)) (aCons (m2 fSub (m1 (fFld "rank") (mVar 0)) (mCon (.int 1))) aNil))))) (sRet (m2 fIdx (mCall sp_face_places [] (aCons (mVar 0) (aCons (mVar 1) aNil))) (mVar 2)))))
def sp_face_of : FSp := fSp b_face_of 3 3
theorem d_face_of {G : Gd} (hb : Bs G) (HC : ClsT G) (HT : IsT G) (HX : ExT G) (r_check_count : FnR G 3 "check_count" sp_check_count []) (r_check_flag : FnR G 4 "check_flag" sp_check_flag []) (r_face_places : FnR G 5 "face_places" sp_face_places []) : ∀ A X, Bd 5 N_face_of (defScope (top 29)) G.P G.w G.K G.mg G.base A X → MSs A X (defBody (top 29)) b_face_of := by
  intro A X B0
  have B := B0.ct (by decide +kernel)
  exact (mss_cons (ms_expr (k_call B r_check_flag (by decide) (by decide +kernel) (ma_cons (k_var B (i := 0) rfl (by decide +kernel)) (ma_cons (k_var B (i := 2) rfl (by decide +kernel)) ma_nil)))) (mss_cons (ms_expr (k_call B r_check_count (by decide) (by decide +kernel) (ma_cons (k_var B (i := 1) rfl (by decide +kernel)) (ma_cons me_int (ma_cons (me_sub B.fit (k_fld B HC (k_var B (i := 0) rfl (by decide +kernel))) me_int) ma_nil))))) (mss_one (ms_ret (me_idx B.fit (k_call B r_face_places (by decide) (by decide +kernel) (ma_cons (k_var B (i := 0) rfl (by decide +kernel)) (ma_cons (k_var B (i := 1) rfl (by decide +kernel)) ma_nil))) (k_var B (i := 2) rfl (by decide +kernel)))))))
def N_face_row : List Str := ["net", "i"]
def b_face_row : TSm := (sSeq (sExpr (mCall sp_check_net [] (aCons (mVar 0) aNil))) (sRet (m1 fTup (lF false (lComp [1] (iRg1 (m1 (fFld "rank") (mVar 0))) (gN 1) bYes (m1 fLen (mCall sp_faces [] (aCons (mVar 0) (aCons (mVar 1) aNil)))))))))
def sp_face_row : FSp := fSp b_face_row 2 1
theorem d_face_row {G : Gd} (hb : Bs G) (HC : ClsT G) (HT : IsT G) (HX : ExT G) (r_check_net : FnR G 3 "check_net" sp_check_net []) (r_faces : FnR G 4 "faces" sp_faces []) : ∀ A X, Bd 4 N_face_row (defScope (top 30)) G.P G.w G.K G.mg G.base A X → MSs A X (defBody (top 30)) b_face_row := by
  intro A X B0
  have B := B0.ct (by decide +kernel)
  exact (mss_cons (ms_expr (k_call B r_check_net (by decide) (by decide +kernel) (ma_cons (k_var B (i := 0) rfl (by decide +kernel)) ma_nil))) (mss_one (ms_ret (me_tupOf B.fit (B.b_tuple hb) (me_lF false (q_comp B [("i", 1)] (mi_rg1 B.fit (B.b_range hb) (k_fld B HC (k_var B (i := 0) rfl (by decide +kernel)))) ⟨rfl, by decide +kernel, by decide +kernel, by decide +kernel, by decide +kernel⟩ (fun A1 X1 B1 => (k_gN B1.toCt rfl (by decide +kernel) rfl (.inr (by decide +kernel)))) (fun A1 X1 B1 => mts_nil) (fun A1 X1 B1 => (me_len B1.toCt.fit (B1.toCt.b_len hb) (k_call B1.toCt r_faces (by decide) (by decide +kernel) (ma_cons (k_var B1.toCt (i := 0) rfl (by decide +kernel)) (ma_cons (k_var B1.toCt (i := 1) rfl (by decide +kernel)) ma_nil)))))))))))
def N_mark_rows : List Str := ["net", "lots", "i", "x", "own"]
def b_mark_rows : TSm := (sSeq (sAsg (lF false (lComp [2] (iRg1 (m1 (fFld "rank") (mVar 0))) (gN 2) bYes (mCall sp_face_places [] (aCons (mVar 0) (aCons (mVar 2) aNil))))) (gN 1)) (sRet (lF false (lComp [3] (iRg1 (m1 (fFld "many") (mVar 0))) (gN 3) bYes (m1 fTup (lF false (lComp [4] (iOf (mVar 1)) (gN 4) bYes (m2 fIdx (mVar 4) (mVar 3)))))))))
def sp_mark_rows : FSp := fSp b_mark_rows 5 1
theorem d_mark_rows {G : Gd} (hb : Bs G) (HC : ClsT G) (HT : IsT G) (HX : ExT G) (r_face_places : FnR G 5 "face_places" sp_face_places []) : ∀ A X, Bd 5 N_mark_rows (defScope (top 31)) G.P G.w G.K G.mg G.base A X → MSs A X (defBody (top 31)) b_mark_rows := by
  intro A X B0
  have B := B0.ct (by decide +kernel)
  exact (mss_cons (q_set B rfl (by decide +kernel) (.inl (B0.fn _)) (me_lF false (q_comp B [("i", 2)] (mi_rg1 B.fit (B.b_range hb) (k_fld B HC (k_var B (i := 0) rfl (by decide +kernel)))) ⟨rfl, by decide +kernel, by decide +kernel, by decide +kernel, by decide +kernel⟩ (fun A1 X1 B1 => (k_gN B1.toCt rfl (by decide +kernel) rfl (.inr (by decide +kernel)))) (fun A1 X1 B1 => mts_nil) (fun A1 X1 B1 => (k_call B1.toCt r_face_places (by decide) (by decide +kernel) (ma_cons (k_var B1.toCt (i := 0) rfl (by decide +kernel)) (ma_cons (k_var B1.toCt (i := 2) rfl (by decide +kernel)) ma_nil)))))) (fun E h => by cases E; subst h; rfl)) (mss_one (ms_ret (me_lF false (q_comp B [("x", 3)] (mi_rg1 B.fit (B.b_range hb) (k_fld B HC (k_var B (i := 0) rfl (by decide +kernel)))) ⟨rfl, by decide +kernel, by decide +kernel, by decide +kernel, by decide +kernel⟩ (fun A1 X1 B1 => (k_gN B1.toCt rfl (by decide +kernel) rfl (.inl ((B1.fn _).trans (by decide +kernel))))) (fun A1 X1 B1 => mts_nil) (fun A1 X1 B1 => (me_tupOf B1.toCt.fit (B1.toCt.b_tuple hb) (me_lF false (q_comp B1.toCt [("own", 4)] (mi_of B1.toCt.fit (k_var B1.toCt (i := 1) rfl (by decide +kernel))) ⟨rfl, by decide +kernel, by decide +kernel, by decide +kernel, by decide +kernel⟩ (fun A2 X2 B2 => (k_gN B2.toCt rfl (by decide +kernel) rfl (.inr (by decide +kernel)))) (fun A2 X2 B2 => mts_nil) (fun A2 X2 B2 => (me_idx B2.toCt.fit (k_var B2.toCt (i := 4) rfl (by decide +kernel)) (k_var B2.toCt (i := 3) rfl (by decide +kernel)))))))))))))
def N_marks : List Str := ["net", "flag"]
def b_marks : TSm := (sSeq (sExpr (mCall sp_check_flag [] (aCons (mVar 0) (aCons (mVar 1) aNil)))) (sRet (m2 fIdx (mCall sp_mark_rows [] (aCons (mVar 0) aNil)) (mVar 1))))
def sp_marks : FSp := fSp b_marks 2 2
theorem d_marks {G : Gd} (hb : Bs G) (HC : ClsT G) (HT : IsT G) (HX : ExT G) (r_check_flag : FnR G 4 "check_flag" sp_check_flag []) (r_mark_rows : FnR G 6 "mark_rows" sp_mark_rows []) : ∀ A X, Bd 6 N_marks (defScope (top 32)) G.P G.w G.K G.mg G.base A X → MSs A X (defBody (top 32)) b_marks := by
  intro A X B0
  have B := B0.ct (by decide +kernel)
  exact (mss_cons (ms_expr (k_call B r_check_flag (by decide) (by decide +kernel) (ma_cons (k_var B (i := 0) rfl (by decide +kernel)) (ma_cons (k_var B (i := 1) rfl (by decide +kernel)) ma_nil)))) (mss_one (ms_ret (me_idx B.fit (k_call B r_mark_rows (by decide) (by decide +kernel) (ma_cons (k_var B (i := 0) rfl (by decide +kernel)) ma_nil)) (k_var B (i := 1) rfl (by decide +kernel))))))
def N_are_told : List Str := ["net"]
def b_are_told : TSm := (sSeq (sExpr (mCall sp_check_net [] (aCons (mVar 0) aNil))) (sRet (m2 fEq (m1 fLenSet (mCall sp_mark_rows [] (aCons (mVar 0) aNil))) (m1 (fFld "many") (mVar 0)))))
def sp_are_told : FSp := fSp b_are_told 1 1
theorem d_are_told {G : Gd} (hb : Bs G) (HC : ClsT G) (HT : IsT G) (HX : ExT G) (r_check_net : FnR G 3 "check_net" sp_check_net []) (r_mark_rows : FnR G 6 "mark_rows" sp_mark_rows []) : ∀ A X, Bd 6 N_are_told (defScope (top 33)) G.P G.w G.K G.mg G.base A X → MSs A X (defBody (top 33)) b_are_told := by
  intro A X B0
  have B := B0.ct (by decide +kernel)
  exact (mss_cons (ms_expr (k_call B r_check_net (by decide) (by decide +kernel) (ma_cons (k_var B (i := 0) rfl (by decide +kernel)) ma_nil))) (mss_one (ms_ret (me_cmp B.fit (c_eq B.u64) (me_lenSet B.fit B.calm B.u200 (B.b_len hb) (B.b_set hb) (k_call B r_mark_rows (by decide) (by decide +kernel) (ma_cons (k_var B (i := 0) rfl (by decide +kernel)) ma_nil))) (k_fld B HC (k_var B (i := 0) rfl (by decide +kernel))) (by rfl)))))
def N_is_on : List Str := ["net", "i", "a", "j", "b", "one", "two"]
def b_is_on : TSm := (sSeq (sExpr (mCall sp_check_net [] (aCons (mVar 0) aNil))) (sSeq (sExpr (mCall sp_check_count [] (aCons (mVar 1) (aCons (mCon (.int 0)) (aCons (m2 fSub (m1 (fFld "rank") (mVar 0)) (mCon (.int 1))) aNil))))) (sSeq (sExpr (mCall sp_check_count [] (aCons (mVar 3) (aCons (mCon (.int 0)) (aCons (m2 fSub (m1 (fFld "rank") (mVar 0)) (mCon (.int 1))) aNil))))) (sSeq (sIf (mT (m2 fEq (mVar 1) (mVar 3))) (sRaise "Malformed" "reason" (mCon (.str "ranks"))) sNil) (sSeq (sPar 5 6 (aCons (mCall sp_faces [] (aCons (mVar 0) (aCons (mVar 1) aNil))) (aCons (mCall sp_faces [] (aCons (mVar 0) (aCons (mVar 3) aNil))) aNil))) (sSeq (sExpr (mCall sp_check_count [] (aCons (mVar 2) (aCons (mCon (.int 0)) (aCons (m2 fSub (m1 fLen (mVar 5)) (mCon (.int 1))) aNil))))) (sSeq (sExpr (mCall sp_check_count [] (aCons (mVar 4) (aCons (mCon (.int 0)) (aCons (m2 fSub (m1 fLen (mVar 6)) (mCon (.int 1))) aNil))))) (sRet (m2 fGt (mLenAnd (m2 fIdx (mVar 5) (mVar 2)) (m2 fIdx (mVar 6) (mVar 4))) (mCon (.int 0)))))))))))
def sp_is_on : FSp := fSp b_is_on 7 5
theorem d_is_on {G : Gd} (hb : Bs G) (HC : ClsT G) (HT : IsT G) (HX : ExT G) (x_Malformed : ExR G 1 "Malformed" "reason") (r_check_count : FnR G 3 "check_count" sp_check_count []) (r_check_net : FnR G 3 "check_net" sp_check_net []) (r_faces : FnR G 4 "faces" sp_faces []) : ∀ A X, Bd 4 N_is_on (defScope (top 34)) G.P G.w G.K G.mg G.base A X → MSs A X (defBody (top 34)) b_is_on := by
  intro A X B0
  have B := B0.ct (by decide +kernel)
  exact (mss_cons (ms_expr (k_call B r_check_net (by decide) (by decide +kernel) (ma_cons (k_var B (i := 0) rfl (by decide +kernel)) ma_nil))) (mss_cons (ms_expr (k_call B r_check_count (by decide) (by decide +kernel) (ma_cons (k_var B (i := 1) rfl (by decide +kernel)) (ma_cons me_int (ma_cons (me_sub B.fit (k_fld B HC (k_var B (i := 0) rfl (by decide +kernel))) me_int) ma_nil))))) (mss_cons (ms_expr (k_call B r_check_count (by decide) (by decide +kernel) (ma_cons (k_var B (i := 3) rfl (by decide +kernel)) (ma_cons me_int (ma_cons (me_sub B.fit (k_fld B HC (k_var B (i := 0) rfl (by decide +kernel))) me_int) ma_nil))))) (mss_cons (ms_if (mt_cmp B.fit (c_eq B.u64) (k_var B (i := 1) rfl (by decide +kernel)) (k_var B (i := 3) rfl (by decide +kernel)) (by rfl)) (mss_one (k_raise B x_Malformed (by decide) (by decide +kernel) me_str)) mss_nil) (mss_cons (k_par B rfl rfl (by decide) (by decide +kernel) (by decide +kernel) (ma_cons (k_call B r_faces (by decide) (by decide +kernel) (ma_cons (k_var B (i := 0) rfl (by decide +kernel)) (ma_cons (k_var B (i := 1) rfl (by decide +kernel)) ma_nil))) (ma_cons (k_call B r_faces (by decide) (by decide +kernel) (ma_cons (k_var B (i := 0) rfl (by decide +kernel)) (ma_cons (k_var B (i := 3) rfl (by decide +kernel)) ma_nil))) ma_nil)) (fun E h => by cases E; subst h; rfl)) (mss_cons (ms_expr (k_call B r_check_count (by decide) (by decide +kernel) (ma_cons (k_var B (i := 2) rfl (by decide +kernel)) (ma_cons me_int (ma_cons (me_sub B.fit (me_len B.fit (B.b_len hb) (k_var B (i := 5) rfl (by decide +kernel))) me_int) ma_nil))))) (mss_cons (ms_expr (k_call B r_check_count (by decide) (by decide +kernel) (ma_cons (k_var B (i := 4) rfl (by decide +kernel)) (ma_cons me_int (ma_cons (me_sub B.fit (me_len B.fit (B.b_len hb) (k_var B (i := 6) rfl (by decide +kernel))) me_int) ma_nil))))) (mss_one (ms_ret (me_cmp B.fit c_gt (me_lenAnd B.fit B.calm B.u200 (B.b_len hb) (B.b_set hb) (me_idx B.fit (k_var B (i := 5) rfl (by decide +kernel)) (k_var B (i := 2) rfl (by decide +kernel))) (me_idx B.fit (k_var B (i := 6) rfl (by decide +kernel)) (k_var B (i := 4) rfl (by decide +kernel)))) me_int (by rfl)))))))))))
def N_euler : List Str := ["net", "total", "i", "count"]
def b_euler : TSm := (sSeq (sAsg (mCon (.int 0)) (gN 1)) (sSeq (sFor (iEnTu (mCall sp_face_row [] (aCons (mVar 0) aNil))) (gT [(gN 2), (gN 3)]) (sAsg (m2 fAdd (mVar 1) (mIf (mT (m2 fEq (m2 fMod (mVar 2) (mCon (.int 2))) (mCon (.int 0)))) (mVar 3) (m1 fNeg (mVar 3)))) (gN 1))) (sRet (mVar 1))))
def sp_euler : FSp := fSp b_euler 4 1
theorem d_euler {G : Gd} (hb : Bs G) (HC : ClsT G) (HT : IsT G) (HX : ExT G) (r_face_row : FnR G 5 "face_row" sp_face_row []) : ∀ A X, Bd 5 N_euler (defScope (top 35)) G.P G.w G.K G.mg G.base A X → MSs A X (defBody (top 35)) b_euler := by
  intro A X B0
  have B := B0.ct (by decide +kernel)
  exact (mss_cons (k_set B rfl (by decide +kernel) (.inr (by decide +kernel)) me_int) (mss_cons (ms_for (vs := [2, 3]) B0.po B.calm (mi_enT B.fit (B.b_enumerate hb) (k_call B r_face_row (by decide) (by decide +kernel) (ma_cons (k_var B (i := 0) rfl (by decide +kernel)) ma_nil))) (mg_tup B.fit B.calm (mgs_cons (k_gN B rfl (by decide +kernel) rfl (.inr (by decide +kernel))) (mgs_cons (k_gN B rfl (by decide +kernel) rfl (.inr (by decide +kernel))) mgs_nil))) (mss_one (k_set B rfl (by decide +kernel) (.inr (by decide +kernel)) (me_add B.fit (k_var B (i := 1) rfl (by decide +kernel)) (me_if (mt_cmp B.fit (c_eq B.u64) (me_mod B.fit (k_var B (i := 2) rfl (by decide +kernel)) me_int) me_int (by rfl)) (k_var B (i := 3) rfl (by decide +kernel)) (me_neg B.fit (k_var B (i := 3) rfl (by decide +kernel)))))))) (mss_one (ms_ret (k_var B (i := 1) rfl (by decide +kernel))))))
def N_is_flat : List Str := ["net", "i", "j", "one", "two"]
def b_is_flat : TSm := (sSeq (sExpr (mCall sp_check_net [] (aCons (mVar 0) aNil))) (sSeq (sExpr (mCall sp_check_count [] (aCons (mVar 1) (aCons (mCon (.int 0)) (aCons (m2 fSub (m1 (fFld "rank") (mVar 0)) (mCon (.int 2))) aNil))))) (sSeq (sExpr (mCall sp_check_count [] (aCons (mVar 2) (aCons (m2 fAdd (mVar 1) (mCon (.int 1))) (aCons (m2 fSub (m1 (fFld "rank") (mVar 0)) (mCon (.int 1))) aNil))))) (sSeq (sPar 3 4 (aCons (mCall sp_face_places [] (aCons (mVar 0) (aCons (mVar 1) aNil))) (aCons (mCall sp_face_places [] (aCons (mVar 0) (aCons (mVar 2) aNil))) aNil))) (sRet (m2 fEq (m1 fLenSet (lF false (lZip (mVar 3) (mVar 4)))) (m2 fMul (m1 fLenSet (mVar 3)) (m1 fLenSet (mVar 4)))))))))
def sp_is_flat : FSp := fSp b_is_flat 5 3
theorem d_is_flat {G : Gd} (hb : Bs G) (HC : ClsT G) (HT : IsT G) (HX : ExT G) (r_check_count : FnR G 3 "check_count" sp_check_count []) (r_check_net : FnR G 3 "check_net" sp_check_net []) (r_face_places : FnR G 5 "face_places" sp_face_places []) : ∀ A X, Bd 5 N_is_flat (defScope (top 36)) G.P G.w G.K G.mg G.base A X → MSs A X (defBody (top 36)) b_is_flat := by
  intro A X B0
  have B := B0.ct (by decide +kernel)
  exact (mss_cons (ms_expr (k_call B r_check_net (by decide) (by decide +kernel) (ma_cons (k_var B (i := 0) rfl (by decide +kernel)) ma_nil))) (mss_cons (ms_expr (k_call B r_check_count (by decide) (by decide +kernel) (ma_cons (k_var B (i := 1) rfl (by decide +kernel)) (ma_cons me_int (ma_cons (me_sub B.fit (k_fld B HC (k_var B (i := 0) rfl (by decide +kernel))) me_int) ma_nil))))) (mss_cons (ms_expr (k_call B r_check_count (by decide) (by decide +kernel) (ma_cons (k_var B (i := 2) rfl (by decide +kernel)) (ma_cons (me_add B.fit (k_var B (i := 1) rfl (by decide +kernel)) me_int) (ma_cons (me_sub B.fit (k_fld B HC (k_var B (i := 0) rfl (by decide +kernel))) me_int) ma_nil))))) (mss_cons (k_par B rfl rfl (by decide) (by decide +kernel) (by decide +kernel) (ma_cons (k_call B r_face_places (by decide) (by decide +kernel) (ma_cons (k_var B (i := 0) rfl (by decide +kernel)) (ma_cons (k_var B (i := 1) rfl (by decide +kernel)) ma_nil))) (ma_cons (k_call B r_face_places (by decide) (by decide +kernel) (ma_cons (k_var B (i := 0) rfl (by decide +kernel)) (ma_cons (k_var B (i := 2) rfl (by decide +kernel)) ma_nil))) ma_nil)) (fun E h => by cases E; subst h; rfl)) (mss_one (ms_ret (me_cmp B.fit (c_eq B.u64) (me_lenSet B.fit B.calm B.u200 (B.b_len hb) (B.b_set hb) (me_lF false (ml_zip B.fit B.calm (B.b_list hb) (B.b_zip hb) (k_var B (i := 3) rfl (by decide +kernel)) (k_var B (i := 4) rfl (by decide +kernel))))) (me_mul B.fit (me_lenSet B.fit B.calm B.u200 (B.b_len hb) (B.b_set hb) (k_var B (i := 3) rfl (by decide +kernel))) (me_lenSet B.fit B.calm B.u200 (B.b_len hb) (B.b_set hb) (k_var B (i := 4) rfl (by decide +kernel)))) (by rfl))))))))
def N__law_state : List Str := ["script", "seed", "total", "cell"]
def b__law_state : TSm := (sSeq (sAsg (mCon (.int 0)) (gN 1)) (sSeq (sAsg (mCon (.int 1)) (gN 2)) (sSeq (sFor (iOf (lF false (lCut (mVar 0) oNo (oAt (mCon (.int 63)))))) (gN 3) (sSeq (sAsg (m2 fAdd (m2 fMul (mVar 1) (mCon (.int 1000003))) (m1 fAbs (mVar 3))) (gN 1)) (sAsg (m2 fMod (m1 fInt (m2 fAdd (m2 fMul (mVar 2) (mCon (.int 48271))) (mVar 3))) (mCon (.int 2147483647))) (gN 2)))) (sRet (lF true (lDisp (aCons (mVar 1) (aCons (mIf (mT (m2 fNe (mVar 2) (mCon (.int 1973665155)))) (mVar 2) (mCon (.int 7))) aNil))))))))
def sp__law_state : FSp := fSpC b__law_state 4 1
theorem d__law_state {G : Gd} (hb : Bs G) (HC : ClsT G) (HT : IsT G) (HX : ExT G)  : ∀ A X, Bd 0 N__law_state (defScope (top 38)) G.P G.w G.K G.mg G.base A X → MSs A X (defBody (top 38)) b__law_state := by
  intro A X B0
  have B := B0.ct (by decide +kernel)
  exact (mss_cons (k_set B rfl (by decide +kernel) (.inr (by decide +kernel)) me_int) (mss_cons (k_set B rfl (by decide +kernel) (.inr (by decide +kernel)) me_int) (mss_cons (ms_for (vs := [3]) B0.po B.calm (mi_of B.fit (me_lF false (ml_cut B.fit (k_var B (i := 0) rfl (by decide +kernel)) mo_no (mo_at me_int)))) (k_gN B rfl (by decide +kernel) rfl (.inr (by decide +kernel))) (mss_cons (k_set B rfl (by decide +kernel) (.inr (by decide +kernel)) (me_add B.fit (me_mul B.fit (k_var B (i := 1) rfl (by decide +kernel)) me_int) (me_abs B.fit (B.b_abs hb) (k_var B (i := 3) rfl (by decide +kernel))))) (mss_one (k_set B rfl (by decide +kernel) (.inr (by decide +kernel)) (me_mod B.fit (me_intOf B.fit (B.b_int hb) (me_add B.fit (me_mul B.fit (k_var B (i := 2) rfl (by decide +kernel)) me_int) (k_var B (i := 3) rfl (by decide +kernel)))) me_int))))) (mss_one (ms_ret (me_lF true (ml_disp (ma_cons (k_var B (i := 1) rfl (by decide +kernel)) (ma_cons (me_if (mt_cmp B.fit (c_ne B.u64) (k_var B (i := 2) rfl (by decide +kernel)) me_int (by rfl)) (k_var B (i := 2) rfl (by decide +kernel)) me_int) ma_nil)))))))))
def N__law_take : List Str := ["state", "m", "value"]
def b__law_take : TSm := (sSeq (sIf (mT (m2 fGt (m2 fIdx (mVar 0) (mCon (.int 0))) (mCon (.int 0)))) (sSeq (sAsg (m2 fMod (m1 fInt (m2 fIdx (mVar 0) (mCon (.int 0)))) (mVar 1)) (gN 2)) (sSeq (sAsg (m2 fDiv (m2 fIdx (mVar 0) (mCon (.int 0))) (mVar 1)) (gSub (mVar 0) (mCon (.int 0)))) (sRet (mVar 2)))) sNil) (sSeq (sAsg (m2 fMod (m1 fInt (m2 fAdd (m2 fMul (m2 fIdx (mVar 0) (mCon (.int 1))) (mCon (.int 48271))) (mCon (.int 11)))) (mCon (.int 2147483647))) (gSub (mVar 0) (mCon (.int 1)))) (sRet (m2 fMod (m1 fInt (m2 fDiv (m2 fIdx (mVar 0) (mCon (.int 1))) (mCon (.int 7)))) (mVar 1)))))
def sp__law_take : FSp := fSp b__law_take 3 2
theorem d__law_take {G : Gd} (hb : Bs G) (HC : ClsT G) (HT : IsT G) (HX : ExT G)  : ∀ A X, Bd 0 N__law_take (defScope (top 39)) G.P G.w G.K G.mg G.base A X → MSs A X (defBody (top 39)) b__law_take := by
  intro A X B0
  have B := B0.ct (by decide +kernel)
  exact (mss_cons (ms_if (mt_cmp B.fit c_gt (me_idx B.fit (k_var B (i := 0) rfl (by decide +kernel)) me_int) me_int (by rfl)) (mss_cons (k_set B rfl (by decide +kernel) (.inr (by decide +kernel)) (me_mod B.fit (me_intOf B.fit (B.b_int hb) (me_idx B.fit (k_var B (i := 0) rfl (by decide +kernel)) me_int)) (k_var B (i := 1) rfl (by decide +kernel)))) (mss_cons (ms_asg (vs := []) (me_div B.fit (me_idx B.fit (k_var B (i := 0) rfl (by decide +kernel)) me_int) (k_var B (i := 1) rfl (by decide +kernel))) (mg_sub (k_var B.nox (i := 0) rfl (by decide +kernel)) me_int)) (mss_one (ms_ret (k_var B (i := 2) rfl (by decide +kernel)))))) mss_nil) (mss_cons (ms_asg (vs := []) (me_mod B.fit (me_intOf B.fit (B.b_int hb) (me_add B.fit (me_mul B.fit (me_idx B.fit (k_var B (i := 0) rfl (by decide +kernel)) me_int) me_int) me_int)) me_int) (mg_sub (k_var B.nox (i := 0) rfl (by decide +kernel)) me_int)) (mss_one (ms_ret (me_mod B.fit (me_intOf B.fit (B.b_int hb) (me_div B.fit (me_idx B.fit (k_var B (i := 0) rfl (by decide +kernel)) me_int) me_int)) (k_var B (i := 1) rfl (by decide +kernel)))))))
def N__law_says : List Str := ["value", "due"]
def b__law_says : TSm := (sRet (mAnd (m1 (fIsT .bl) (mVar 0)) (m2 fEq (mVar 0) (mVar 1))))
def sp__law_says : FSp := fSp b__law_says 2 2
theorem d__law_says {G : Gd} (hb : Bs G) (HC : ClsT G) (HT : IsT G) (HX : ExT G)  : ∀ A X, Bd 0 N__law_says (defScope (top 40)) G.P G.w G.K G.mg G.base A X → MSs A X (defBody (top 40)) b__law_says := by
  intro A X B0
  have B := B0.ct (by decide +kernel)
  exact (mss_one (ms_ret (me_and (k_isT B HT .bl bb_bool (hb.f "isinstance") (by decide +kernel) (hb.f "bool") (by decide +kernel) (k_var B (i := 0) rfl (by decide +kernel))) (me_one (me_cmp B.fit (c_eq B.u64) (k_var B (i := 0) rfl (by decide +kernel)) (k_var B (i := 1) rfl (by decide +kernel)) (by rfl))))))
def N__law_is_whole : List Str := ["value"]
def b__law_is_whole : TSm := (sRet (mAnd (m1 (fIsT .int) (mVar 0)) (mNot (m1 (fIsT .bl) (mVar 0)))))
def sp__law_is_whole : FSp := fSp b__law_is_whole 1 1
theorem d__law_is_whole {G : Gd} (hb : Bs G) (HC : ClsT G) (HT : IsT G) (HX : ExT G)  : ∀ A X, Bd 0 N__law_is_whole (defScope (top 41)) G.P G.w G.K G.mg G.base A X → MSs A X (defBody (top 41)) b__law_is_whole := by
  intro A X B0
  have B := B0.ct (by decide +kernel)
  exact (mss_one (ms_ret (me_and (k_isT B HT .int bb_int (hb.f "isinstance") (by decide +kernel) (hb.f "int") (by decide +kernel) (k_var B (i := 0) rfl (by decide +kernel))) (me_one (me_not (k_isT B HT .bl bb_bool (hb.f "isinstance") (by decide +kernel) (hb.f "bool") (by decide +kernel) (k_var B (i := 0) rfl (by decide +kernel))))))))
def N__law_same : List Str := ["one", "two", "k"]
def b__law_same (self : FSp) : TSm := (sSeq (sIf (mT (m1 (fIsT .bl) (mVar 1))) (sRet (mAnd (m1 (fIsT .bl) (mVar 0)) (m2 fEq (mVar 0) (mVar 1)))) sNil) (sSeq (sIf (mT (m1 (fIsT .tup) (mVar 1))) (sRet (mAnd (m1 (fIsT .tup) (mVar 0)) (mAnd (m2 fEq (m1 fLen (mVar 0)) (m1 fLen (mVar 1))) (m1 fAll (lF false (lComp [2] (iRg1 (m1 fLen (mVar 1))) (gN 2) bYes (mCall self [] (aCons (m2 fIdx (mVar 0) (mVar 2)) (aCons (m2 fIdx (mVar 1) (mVar 2)) aNil))))))))) sNil) (sSeq (sIf (mT (m1 (fIsT .lst) (mVar 1))) (sRet (mAnd (m1 (fIsT .lst) (mVar 0)) (mCall self [] (aCons (m1 fTup (mVar 0)) (aCons (m1 fTup (mVar 1)) aNil))))) sNil) (sSeq (sIf (mT (m1 (fIsT .str) (mVar 1))) (sRet (mAnd (m1 (fIsT .str) (mVar 0)) (m2 fEq (mVar 0) (mVar 1)))) sNil) (sSeq (sIf (mT (m1 (fun d _ => some (.bl (isN d))) (mVar 1))) (sRet (m1 (fun d _ => some (.bl (isN d))) (mVar 0))) sNil) (sRet (mAnd (mCall sp__law_is_whole [] (aCons (mVar 0) aNil)) (m2 fEq (mVar 0) (mVar 1)))))))))
def sp__law_same : Nat → FSp
  | 0 => fSp sNo 3 2
  | d + 1 => fSp (b__law_same (sp__law_same d)) 3 2
theorem d__law_same {G : Gd} (hb : Bs G) (HC : ClsT G) (HT : IsT G) (HX : ExT G) (r__law_is_whole : FnR G 1 "_law_is_whole" sp__law_is_whole []) {k : Nat} (hk : 1 ≤ k) {self : FSp} (r__law_same : FnR G k "_law_same" self []) : ∀ A X, Bd k N__law_same (defScope (top 42)) G.P G.w G.K G.mg G.base A X → MSs A X (defBody (top 42)) (b__law_same self) := by
  intro A X B0
  have B := B0.ct (by decide +kernel)
  exact (mss_cons (ms_if (mt_val (k_isT B HT .bl bb_bool (hb.f "isinstance") (by decide +kernel) (hb.f "bool") (by decide +kernel) (k_var B (i := 1) rfl (by decide +kernel)))) (mss_one (ms_ret (me_and (k_isT B HT .bl bb_bool (hb.f "isinstance") (by decide +kernel) (hb.f "bool") (by decide +kernel) (k_var B (i := 0) rfl (by decide +kernel))) (me_one (me_cmp B.fit (c_eq B.u64) (k_var B (i := 0) rfl (by decide +kernel)) (k_var B (i := 1) rfl (by decide +kernel)) (by rfl)))))) mss_nil) (mss_cons (ms_if (mt_val (k_isT B HT .tup bb_tuple (hb.f "isinstance") (by decide +kernel) (hb.f "tuple") (by decide +kernel) (k_var B (i := 1) rfl (by decide +kernel)))) (mss_one (ms_ret (me_and (k_isT B HT .tup bb_tuple (hb.f "isinstance") (by decide +kernel) (hb.f "tuple") (by decide +kernel) (k_var B (i := 0) rfl (by decide +kernel))) (me_and (me_cmp B.fit (c_eq B.u64) (me_len B.fit (B.b_len hb) (k_var B (i := 0) rfl (by decide +kernel))) (me_len B.fit (B.b_len hb) (k_var B (i := 1) rfl (by decide +kernel))) (by rfl)) (me_one (me_all B.fit B.calm (B.b_all hb) (me_lF false (q_comp B [("k", 2)] (mi_rg1 B.fit (B.b_range hb) (me_len B.fit (B.b_len hb) (k_var B (i := 1) rfl (by decide +kernel)))) ⟨rfl, by decide +kernel, by decide +kernel, by decide +kernel, by decide +kernel⟩ (fun A1 X1 B1 => (k_gN B1.toCt rfl (by decide +kernel) rfl (.inr (by decide +kernel)))) (fun A1 X1 B1 => mts_nil) (fun A1 X1 B1 => (k_call B1.toCt r__law_same (Nat.le_refl _) (by decide +kernel) (ma_cons (me_idx B1.toCt.fit (k_var B1.toCt (i := 0) rfl (by decide +kernel)) (k_var B1.toCt (i := 2) rfl (by decide +kernel))) (ma_cons (me_idx B1.toCt.fit (k_var B1.toCt (i := 1) rfl (by decide +kernel)) (k_var B1.toCt (i := 2) rfl (by decide +kernel))) ma_nil)))))))))))) mss_nil) (mss_cons (ms_if (mt_val (k_isT B HT .lst bb_list (hb.f "isinstance") (by decide +kernel) (hb.f "list") (by decide +kernel) (k_var B (i := 1) rfl (by decide +kernel)))) (mss_one (ms_ret (me_and (k_isT B HT .lst bb_list (hb.f "isinstance") (by decide +kernel) (hb.f "list") (by decide +kernel) (k_var B (i := 0) rfl (by decide +kernel))) (me_one (k_call B r__law_same (Nat.le_refl _) (by decide +kernel) (ma_cons (me_tupOf B.fit (B.b_tuple hb) (k_var B (i := 0) rfl (by decide +kernel))) (ma_cons (me_tupOf B.fit (B.b_tuple hb) (k_var B (i := 1) rfl (by decide +kernel))) ma_nil))))))) mss_nil) (mss_cons (ms_if (mt_val (k_isT B HT .str bb_str (hb.f "isinstance") (by decide +kernel) (hb.f "str") (by decide +kernel) (k_var B (i := 1) rfl (by decide +kernel)))) (mss_one (ms_ret (me_and (k_isT B HT .str bb_str (hb.f "isinstance") (by decide +kernel) (hb.f "str") (by decide +kernel) (k_var B (i := 0) rfl (by decide +kernel))) (me_one (me_cmp B.fit (c_eq B.u64) (k_var B (i := 0) rfl (by decide +kernel)) (k_var B (i := 1) rfl (by decide +kernel)) (by rfl)))))) mss_nil) (mss_cons (ms_if (mt_isN B.fit (k_var B (i := 1) rfl (by decide +kernel))) (mss_one (ms_ret (me_isN B.fit (k_var B (i := 0) rfl (by decide +kernel))))) mss_nil) (mss_one (ms_ret (me_and (k_call B r__law_is_whole (Nat.le_trans (by decide) hk) (by decide +kernel) (ma_cons (k_var B (i := 0) rfl (by decide +kernel)) ma_nil)) (me_one (me_cmp B.fit (c_eq B.u64) (k_var B (i := 0) rfl (by decide +kernel)) (k_var B (i := 1) rfl (by decide +kernel)) (by rfl)))))))))))
/-- the defs that are told by value -/
def tbl : List (Str × FSp) := [("faces", sp_faces), ("face_of", sp_face_of), ("marks", sp_marks), ("components", sp_components), ("face_row", sp_face_row), ("are_told", sp_are_told), ("euler", sp_euler), ("is_flat", sp_is_flat), ("is_on", sp_is_on)]
def N__law_told : List Str := ["act", "given", "wrong", "refused"]
def b__law_told : TSm := (sTry N__law_told.length (sSeq (sIf (mT (m2 fGt (m1 fLen (mVar 1)) (mCon (.int 3)))) (sRet (mTup (aCons (mCon (.str "told")) (aCons (mIf (mT (m2 fEq (m1 fLen (mVar 1)) (mCon (.int 4)))) (mCallV tbl 0 (aCons (m2 fIdx (mVar 1) (mCon (.int 0))) (aCons (m2 fIdx (mVar 1) (mCon (.int 1))) (aCons (m2 fIdx (mVar 1) (mCon (.int 2))) (aCons (m2 fIdx (mVar 1) (mCon (.int 3))) aNil))))) (mCallV tbl 0 (aCons (m2 fIdx (mVar 1) (mCon (.int 0))) (aCons (m2 fIdx (mVar 1) (mCon (.int 1))) (aCons (m2 fIdx (mVar 1) (mCon (.int 2))) (aCons (m2 fIdx (mVar 1) (mCon (.int 3))) (aCons (m2 fIdx (mVar 1) (mCon (.int 4))) aNil))))))) aNil)))) sNil) (sRet (mTup (aCons (mCon (.str "told")) (aCons (mIf (mT (m2 fEq (m1 fLen (mVar 1)) (mCon (.int 1)))) (mCallV tbl 0 (aCons (m2 fIdx (mVar 1) (mCon (.int 0))) aNil)) (mIf (mT (m2 fEq (m1 fLen (mVar 1)) (mCon (.int 2)))) (mCallV tbl 0 (aCons (m2 fIdx (mVar 1) (mCon (.int 0))) (aCons (m2 fIdx (mVar 1) (mCon (.int 1))) aNil))) (mCallV tbl 0 (aCons (m2 fIdx (mVar 1) (mCon (.int 0))) (aCons (m2 fIdx (mVar 1) (mCon (.int 1))) (aCons (m2 fIdx (mVar 1) (mCon (.int 2))) aNil)))))) aNil))))) [⟨"Malformed", none, fun _ => (sRet (mTup (aCons (mCon (.str "malformed")) (aCons (mCon .non) aNil))))⟩, ⟨"NoText", some 2, fun _ => sNo⟩, ⟨"Refused", some 3, fun _ => sNo⟩])
def sp__law_told : FSp := fSp b__law_told 4 2
theorem d__law_told {G : Gd} (hb : Bs G) (HC : ClsT G) (HT : IsT G) (HX : ExT G) {C_Malformed : Addr} (hc_Malformed : G.mg "Malformed" = some (.ref C_Malformed)) {C_NoText : Addr} (hc_NoText : G.mg "NoText" = some (.ref C_NoText)) {C_Refused : Addr} (hc_Refused : G.mg "Refused" = some (.ref C_Refused)) (R : TblR G 7 tbl) : ∀ A X, Bd 7 N__law_told (defScope (top 43)) G.P G.w G.K G.mg G.base A X → MSs A X (defBody (top 43)) b__law_told := by
  intro A X B0
  have B := B0.ct (by decide +kernel)
  exact (mss_one (k_try B HX B0.stk B0.frm (fun A1 X1 T1 po1 => (mss_cons (ms_if (mt_cmp T1.fit c_gt (me_len T1.fit (T1.b_len hb) (k_var T1 (i := 1) rfl (by decide +kernel))) me_int (by rfl)) (mss_one (ms_ret (me_tup (ma_cons me_str (ma_cons (me_if (mt_cmp T1.fit (c_eq T1.u64) (me_len T1.fit (T1.b_len hb) (k_var T1 (i := 1) rfl (by decide +kernel))) me_int (by rfl)) (k_callV T1 R (by decide) rfl (by decide +kernel) (ma_cons (me_idx T1.fit (k_var T1 (i := 1) rfl (by decide +kernel)) me_int) (ma_cons (me_idx T1.fit (k_var T1 (i := 1) rfl (by decide +kernel)) me_int) (ma_cons (me_idx T1.fit (k_var T1 (i := 1) rfl (by decide +kernel)) me_int) (ma_cons (me_idx T1.fit (k_var T1 (i := 1) rfl (by decide +kernel)) me_int) ma_nil))))) (k_callV T1 R (by decide) rfl (by decide +kernel) (ma_cons (me_idx T1.fit (k_var T1 (i := 1) rfl (by decide +kernel)) me_int) (ma_cons (me_idx T1.fit (k_var T1 (i := 1) rfl (by decide +kernel)) me_int) (ma_cons (me_idx T1.fit (k_var T1 (i := 1) rfl (by decide +kernel)) me_int) (ma_cons (me_idx T1.fit (k_var T1 (i := 1) rfl (by decide +kernel)) me_int) (ma_cons (me_idx T1.fit (k_var T1 (i := 1) rfl (by decide +kernel)) me_int) ma_nil))))))) ma_nil))))) mss_nil) (mss_one (ms_ret (me_tup (ma_cons me_str (ma_cons (me_if (mt_cmp T1.fit (c_eq T1.u64) (me_len T1.fit (T1.b_len hb) (k_var T1 (i := 1) rfl (by decide +kernel))) me_int (by rfl)) (k_callV T1 R (by decide) rfl (by decide +kernel) (ma_cons (me_idx T1.fit (k_var T1 (i := 1) rfl (by decide +kernel)) me_int) ma_nil)) (me_if (mt_cmp T1.fit (c_eq T1.u64) (me_len T1.fit (T1.b_len hb) (k_var T1 (i := 1) rfl (by decide +kernel))) me_int (by rfl)) (k_callV T1 R (by decide) rfl (by decide +kernel) (ma_cons (me_idx T1.fit (k_var T1 (i := 1) rfl (by decide +kernel)) me_int) (ma_cons (me_idx T1.fit (k_var T1 (i := 1) rfl (by decide +kernel)) me_int) ma_nil))) (k_callV T1 R (by decide) rfl (by decide +kernel) (ma_cons (me_idx T1.fit (k_var T1 (i := 1) rfl (by decide +kernel)) me_int) (ma_cons (me_idx T1.fit (k_var T1 (i := 1) rfl (by decide +kernel)) me_int) (ma_cons (me_idx T1.fit (k_var T1 (i := 1) rfl (by decide +kernel)) me_int) ma_nil)))))) ma_nil))))))) (.plain rfl hc_Malformed (B.gl (by decide +kernel)) (fun _ _ _ _ _ _ _ _ _ _ => (mss_one (ms_ret (me_tup (ma_cons me_str (ma_cons me_non ma_nil)))))) (.named rfl hc_NoText (B.gl (by decide +kernel)) (by rw [B.N]; rfl) (by show X.env.scope.names.lookup _ = _; rw [B.sc]; exact locB_ok (by decide +kernel)) (fun _ _ _ _ _ _ _ _ _ _ => mss_no) (.named rfl hc_Refused (B.gl (by decide +kernel)) (by rw [B.N]; rfl) (by show X.env.scope.names.lookup _ = _; rw [B.sc]; exact locB_ok (by decide +kernel)) (fun _ _ _ _ _ _ _ _ _ _ => mss_no) .nil)))))
def N__law_all_malformed : List Str := ["tried", "act", "given"]
def b__law_all_malformed : TSm := (sRet (m1 fAll (lF false (lComp [1, 2] (iOf (mVar 0)) (gT [(gN 1), (gN 2)]) bYes (m2 fEq (mCall sp__law_told [] (aCons (mVar 1) (aCons (mVar 2) aNil))) (mTup (aCons (mCon (.str "malformed")) (aCons (mCon .non) aNil))))))))
def sp__law_all_malformed : FSp := fSp b__law_all_malformed 3 1
theorem d__law_all_malformed {G : Gd} (hb : Bs G) (HC : ClsT G) (HT : IsT G) (HX : ExT G) (r__law_told : FnR G 8 "_law_told" sp__law_told []) : ∀ A X, Bd 8 N__law_all_malformed (defScope (top 44)) G.P G.w G.K G.mg G.base A X → MSs A X (defBody (top 44)) b__law_all_malformed := by
  intro A X B0
  have B := B0.ct (by decide +kernel)
  exact (mss_one (ms_ret (me_all B.fit B.calm (B.b_all hb) (me_lF false (q_comp B [("act", 1), ("given", 2)] (mi_of B.fit (k_var B (i := 0) rfl (by decide +kernel))) ⟨rfl, by decide +kernel, by decide +kernel, by decide +kernel, by decide +kernel⟩ (fun A1 X1 B1 => (mg_tup B1.toCt.fit B1.toCt.calm (mgs_cons (k_gN B1.toCt rfl (by decide +kernel) rfl (.inr (by decide +kernel))) (mgs_cons (k_gN B1.toCt rfl (by decide +kernel) rfl (.inr (by decide +kernel))) mgs_nil)))) (fun A1 X1 B1 => mts_nil) (fun A1 X1 B1 => (me_cmp B1.toCt.fit (c_eq B1.toCt.u64) (k_call B1.toCt r__law_told (by decide) (by decide +kernel) (ma_cons (k_var B1.toCt (i := 1) rfl (by decide +kernel)) (ma_cons (k_var B1.toCt (i := 2) rfl (by decide +kernel)) ma_nil))) (me_tup (ma_cons me_str (ma_cons me_non ma_nil))) (by rfl))))))))
def N__law_pairing : List Str := ["state", "m", "some", "left", "row", "x", "y"]
def b__law_pairing : TSm := (sSeq (sPar 3 4 (aCons (lF true (lRange (r1 (mVar 1)))) (aCons (lF true (lRange (r1 (mVar 1)))) aNil))) (sSeq (sWhile (mT (m2 fGt (m1 fLen (mVar 3)) (mCon (.int 1)))) (sSeq (sAsg (mMut fPopAt (mVar 3) (aCons (mCon (.int 0)) aNil)) (gN 5)) (sIf (bOr (bNot (mT (mVar 2))) (mT (m2 fGt (mCall sp__law_take [] (aCons (mVar 0) (aCons (mCon (.int 4)) aNil))) (mCon (.int 0))))) (sSeq (sAsg (mMut fPopAt (mVar 3) (aCons (mCall sp__law_take [] (aCons (mVar 0) (aCons (m1 fLen (mVar 3)) aNil))) aNil)) (gN 6)) (sAsg (mTup (aCons (mVar 6) (aCons (mVar 5) aNil))) (gT [(gSub (mVar 4) (mVar 5)), (gSub (mVar 4) (mVar 6))]))) sNil))) (sRet (m1 fTup (mVar 4)))))
def sp__law_pairing : FSp := fSp b__law_pairing 7 3
theorem d__law_pairing {G : Gd} (hb : Bs G) (HC : ClsT G) (HT : IsT G) (HX : ExT G) (r__law_take : FnR G 1 "_law_take" sp__law_take []) : ∀ A X, Bd 1 N__law_pairing (defScope (top 45)) G.P G.w G.K G.mg G.base A X → MSs A X (defBody (top 45)) b__law_pairing := by
  intro A X B0
  have B := B0.ct (by decide +kernel)
  exact (mss_cons (k_par B rfl rfl (by decide) (by decide +kernel) (by decide +kernel) (ma_cons (me_lF true (ml_range B.calm (B.b_list hb) (mr_1 (B.b_range hb) (k_var B (i := 1) rfl (by decide +kernel))))) (ma_cons (me_lF true (ml_range B.calm (B.b_list hb) (mr_1 (B.b_range hb) (k_var B (i := 1) rfl (by decide +kernel))))) ma_nil)) (fun E h => by cases E; subst h; rfl)) (mss_cons (ms_while B0.po (mt_cmp B.fit c_gt (me_len B.fit (B.b_len hb) (k_var B (i := 3) rfl (by decide +kernel))) me_int (by rfl)) (mss_cons (k_set B rfl (by decide +kernel) (.inr (by decide +kernel)) (me_popAt B.fit (k_var B (i := 3) rfl (by decide +kernel)) (ma_cons me_int ma_nil))) (mss_one (ms_if (mt_w (mw_or (mt_not (mt_val (k_var B (i := 2) rfl (by decide +kernel)))) (mw_or1 (mt_cmp B.fit c_gt (k_call B r__law_take (by decide) (by decide +kernel) (ma_cons (k_var B (i := 0) rfl (by decide +kernel)) (ma_cons me_int ma_nil))) me_int (by rfl))))) (mss_cons (k_set B rfl (by decide +kernel) (.inr (by decide +kernel)) (me_popAt B.fit (k_var B (i := 3) rfl (by decide +kernel)) (ma_cons (k_call B r__law_take (by decide) (by decide +kernel) (ma_cons (k_var B (i := 0) rfl (by decide +kernel)) (ma_cons (me_len B.fit (B.b_len hb) (k_var B (i := 3) rfl (by decide +kernel))) ma_nil))) ma_nil))) (mss_one (k_asg (vs := []) B (me_tup (ma_cons (k_var B (i := 6) rfl (by decide +kernel)) (ma_cons (k_var B (i := 5) rfl (by decide +kernel)) ma_nil))) (mg_tup B.fit B.calm (mgs_cons (mg_sub (k_var B.nox (i := 4) rfl (by decide +kernel)) (k_var B.nox (i := 5) rfl (by decide +kernel))) (mgs_cons (mg_sub (k_var B.nox (i := 4) rfl (by decide +kernel)) (k_var B.nox (i := 6) rfl (by decide +kernel))) mgs_nil))) (fun E h => by cases E; subst h; rfl)))) mss_nil)))) (mss_one (ms_ret (me_tupOf B.fit (B.b_tuple hb) (k_var B (i := 4) rfl (by decide +kernel)))))))
def N__law_line : List Str := ["flips", "flag", "line", "at", "own"]
def b__law_line : TSm := (sSeq (sPar 2 3 (aCons (lF true (lDisp (aCons (mVar 1) aNil))) (aCons (mCon (.int 0)) aNil))) (sSeq (sWhile (mT (m2 fLt (mVar 3) (m1 fLen (mVar 2)))) (sSeq (sFor (iOf (mVar 0)) (gN 4) (sIf (mT (m2 (fIn true) (m2 fIdx (mVar 4) (m2 fIdx (mVar 2) (mVar 3))) (mVar 2))) (sExpr (mMut fApp (mVar 2) (aCons (m2 fIdx (mVar 4) (m2 fIdx (mVar 2) (mVar 3))) aNil))) sNil)) (sAsg (m2 fAdd (mVar 3) (mCon (.int 1))) (gN 3)))) (sRet (mVar 2))))
def sp__law_line : FSp := fSp b__law_line 5 2
theorem d__law_line {G : Gd} (hb : Bs G) (HC : ClsT G) (HT : IsT G) (HX : ExT G)  : ∀ A X, Bd 0 N__law_line (defScope (top 46)) G.P G.w G.K G.mg G.base A X → MSs A X (defBody (top 46)) b__law_line := by
  intro A X B0
  have B := B0.ct (by decide +kernel)
  exact (mss_cons (k_par B rfl rfl (by decide) (by decide +kernel) (by decide +kernel) (ma_cons (me_lF true (ml_disp (ma_cons (k_var B (i := 1) rfl (by decide +kernel)) ma_nil))) (ma_cons me_int ma_nil)) (fun E h => by cases E; subst h; rfl)) (mss_cons (ms_while B0.po (mt_cmp B.fit c_lt (k_var B (i := 3) rfl (by decide +kernel)) (me_len B.fit (B.b_len hb) (k_var B (i := 2) rfl (by decide +kernel))) (by rfl)) (mss_cons (ms_for (vs := [4]) B0.po B.calm (mi_of B.fit (k_var B (i := 0) rfl (by decide +kernel))) (k_gN B rfl (by decide +kernel) rfl (.inr (by decide +kernel))) (mss_one (ms_if (mt_cmp B.fit c_nin (me_idx B.fit (k_var B (i := 4) rfl (by decide +kernel)) (me_idx B.fit (k_var B (i := 2) rfl (by decide +kernel)) (k_var B (i := 3) rfl (by decide +kernel)))) (k_var B (i := 2) rfl (by decide +kernel)) (by rfl)) (mss_one (ms_expr (me_app B.fit (k_var B (i := 2) rfl (by decide +kernel)) (ma_cons (me_idx B.fit (k_var B (i := 4) rfl (by decide +kernel)) (me_idx B.fit (k_var B (i := 2) rfl (by decide +kernel)) (k_var B (i := 3) rfl (by decide +kernel)))) ma_nil)))) mss_nil))) (mss_one (k_set B rfl (by decide +kernel) (.inr (by decide +kernel)) (me_add B.fit (k_var B (i := 3) rfl (by decide +kernel)) me_int))))) (mss_one (ms_ret (k_var B (i := 2) rfl (by decide +kernel))))))
def N__law_form : List Str := ["flips", "flag", "line", "names", "k", "x", "own"]
def b__law_form : TSm := (sSeq (sAsg (mCall sp__law_line [] (aCons (mVar 0) (aCons (mVar 1) aNil))) (gN 2)) (sSeq (sAsg (m1 fDOf (lF false (lComp [4, 5] (iEnL (mVar 2)) (gT [(gN 4), (gN 5)]) bYes (mTup (aCons (mVar 5) (aCons (mVar 4) aNil)))))) (gN 3)) (sRet (m1 fTup (lF false (lComp [6] (iOf (mVar 0)) (gN 6) bYes (m1 fTup (lF false (lComp [5] (iOf (mVar 2)) (gN 5) bYes (m2 fDGet (mVar 3) (m2 fIdx (mVar 6) (mVar 5))))))))))))
def sp__law_form : FSp := fSp b__law_form 7 2
theorem d__law_form {G : Gd} (hb : Bs G) (HC : ClsT G) (HT : IsT G) (HX : ExT G) (r__law_line : FnR G 1 "_law_line" sp__law_line []) : ∀ A X, Bd 1 N__law_form (defScope (top 47)) G.P G.w G.K G.mg G.base A X → MSs A X (defBody (top 47)) b__law_form := by
  intro A X B0
  have B := B0.ct (by decide +kernel)
  exact (mss_cons (k_set B rfl (by decide +kernel) (.inl (B0.fn _)) (k_call B r__law_line (by decide) (by decide +kernel) (ma_cons (k_var B (i := 0) rfl (by decide +kernel)) (ma_cons (k_var B (i := 1) rfl (by decide +kernel)) ma_nil)))) (mss_cons (k_set B rfl (by decide +kernel) (.inl (B0.fn _)) (me_dOf B.fit B.calm B.u200 (B.b_dict hb) (me_lF false (q_comp B [("k", 4), ("x", 5)] (mi_enL B.fit (B.b_enumerate hb) (k_var B (i := 2) rfl (by decide +kernel))) ⟨rfl, by decide +kernel, by decide +kernel, by decide +kernel, by decide +kernel⟩ (fun A1 X1 B1 => (mg_tup B1.toCt.fit B1.toCt.calm (mgs_cons (k_gN B1.toCt rfl (by decide +kernel) rfl (.inr (by decide +kernel))) (mgs_cons (k_gN B1.toCt rfl (by decide +kernel) rfl (.inr (by decide +kernel))) mgs_nil)))) (fun A1 X1 B1 => mts_nil) (fun A1 X1 B1 => (me_tup (ma_cons (k_var B1.toCt (i := 5) rfl (by decide +kernel)) (ma_cons (k_var B1.toCt (i := 4) rfl (by decide +kernel)) ma_nil)))))))) (mss_one (ms_ret (me_tupOf B.fit (B.b_tuple hb) (me_lF false (q_comp B [("own", 6)] (mi_of B.fit (k_var B (i := 0) rfl (by decide +kernel))) ⟨rfl, by decide +kernel, by decide +kernel, by decide +kernel, by decide +kernel⟩ (fun A1 X1 B1 => (k_gN B1.toCt rfl (by decide +kernel) rfl (.inl ((B1.fn _).trans (by decide +kernel))))) (fun A1 X1 B1 => mts_nil) (fun A1 X1 B1 => (me_tupOf B1.toCt.fit (B1.toCt.b_tuple hb) (me_lF false (q_comp B1.toCt [("x", 5)] (mi_of B1.toCt.fit (k_var B1.toCt (i := 2) rfl (by decide +kernel))) ⟨rfl, by decide +kernel, by decide +kernel, by decide +kernel, by decide +kernel⟩ (fun A2 X2 B2 => (k_gN B2.toCt rfl (by decide +kernel) rfl (.inr (by decide +kernel)))) (fun A2 X2 B2 => mts_nil) (fun A2 X2 B2 => (me_dget B2.toCt.fit B2.toCt.u1 (k_var B2.toCt (i := 3) rfl (by decide +kernel)) (me_idx B2.toCt.fit (k_var B2.toCt (i := 6) rfl (by decide +kernel)) (k_var B2.toCt (i := 5) rfl (by decide +kernel))))))))))))))))
def N__law_map : List Str := ["state", "some", "e", "ends", "sides", "k"]
def b__law_map : TSm := (sSeq (sPar3 2 3 4 (aCons (m2 fAdd (mCon (.int 1)) (mCall sp__law_take [] (aCons (mVar 0) (aCons (mCon (.int 4)) aNil)))) (aCons (lF false (lDisp aNil)) (aCons (lF false (lDisp aNil)) aNil)))) (sSeq (sFor (iRg1 (mVar 2)) (gN 5) (sSeq (sAsg (lF false (l2 fCatL (mVar 3) (lF false (lDisp (aCons (m2 fAdd (m2 fMul (mCon (.int 4)) (mVar 5)) (mCon (.int 1))) (aCons (m2 fMul (mCon (.int 4)) (mVar 5)) (aCons (m2 fAdd (m2 fMul (mCon (.int 4)) (mVar 5)) (mCon (.int 3))) (aCons (m2 fAdd (m2 fMul (mCon (.int 4)) (mVar 5)) (mCon (.int 2))) aNil)))))))) (gN 3)) (sAsg (lF false (l2 fCatL (mVar 4) (lF false (lDisp (aCons (m2 fAdd (m2 fMul (mCon (.int 4)) (mVar 5)) (mCon (.int 2))) (aCons (m2 fAdd (m2 fMul (mCon (.int 4)) (mVar 5)) (mCon (.int 3))) (aCons (m2 fMul (mCon (.int 4)) (mVar 5)) (aCons (m2 fAdd (m2 fMul (mCon (.int 4)) (mVar 5)) (mCon (.int 1))) aNil)))))))) (gN 4)))) (sRet (mCall sp__law_form [] (aCons (mTup (aCons (m1 fTup (mVar 3)) (aCons (mCall sp__law_pairing [] (aCons (mVar 0) (aCons (m2 fMul (mCon (.int 4)) (mVar 2)) (aCons (mVar 1) aNil)))) (aCons (m1 fTup (mVar 4)) aNil)))) (aCons (mCon (.int 0)) aNil))))))
def sp__law_map : FSp := fSp b__law_map 6 2
theorem d__law_map {G : Gd} (hb : Bs G) (HC : ClsT G) (HT : IsT G) (HX : ExT G) (r__law_form : FnR G 2 "_law_form" sp__law_form []) (r__law_pairing : FnR G 2 "_law_pairing" sp__law_pairing []) (r__law_take : FnR G 1 "_law_take" sp__law_take []) : ∀ A X, Bd 2 N__law_map (defScope (top 48)) G.P G.w G.K G.mg G.base A X → MSs A X (defBody (top 48)) b__law_map := by
  intro A X B0
  have B := B0.ct (by decide +kernel)
  exact (mss_cons (k_par3 B rfl rfl rfl (by decide) (by decide) (by decide) (by decide +kernel) (by decide +kernel) (by decide +kernel) (ma_cons (me_add B.fit me_int (k_call B r__law_take (by decide) (by decide +kernel) (ma_cons (k_var B (i := 0) rfl (by decide +kernel)) (ma_cons me_int ma_nil)))) (ma_cons (me_lF false (ml_disp ma_nil)) (ma_cons (me_lF false (ml_disp ma_nil)) ma_nil))) (fun E h => by cases E; subst h; rfl)) (mss_cons (ms_for (vs := [5]) B0.po B.calm (mi_rg1 B.fit (B.b_range hb) (k_var B (i := 2) rfl (by decide +kernel))) (k_gN B rfl (by decide +kernel) rfl (.inr (by decide +kernel))) (mss_cons (k_set B rfl (by decide +kernel) (.inr (by decide +kernel)) (me_lF false (ml_cat B.fit (k_var B (i := 3) rfl (by decide +kernel)) (me_lF false (ml_disp (ma_cons (me_add B.fit (me_mul B.fit me_int (k_var B (i := 5) rfl (by decide +kernel))) me_int) (ma_cons (me_mul B.fit me_int (k_var B (i := 5) rfl (by decide +kernel))) (ma_cons (me_add B.fit (me_mul B.fit me_int (k_var B (i := 5) rfl (by decide +kernel))) me_int) (ma_cons (me_add B.fit (me_mul B.fit me_int (k_var B (i := 5) rfl (by decide +kernel))) me_int) ma_nil))))))))) (mss_one (k_set B rfl (by decide +kernel) (.inr (by decide +kernel)) (me_lF false (ml_cat B.fit (k_var B (i := 4) rfl (by decide +kernel)) (me_lF false (ml_disp (ma_cons (me_add B.fit (me_mul B.fit me_int (k_var B (i := 5) rfl (by decide +kernel))) me_int) (ma_cons (me_add B.fit (me_mul B.fit me_int (k_var B (i := 5) rfl (by decide +kernel))) me_int) (ma_cons (me_mul B.fit me_int (k_var B (i := 5) rfl (by decide +kernel))) (ma_cons (me_add B.fit (me_mul B.fit me_int (k_var B (i := 5) rfl (by decide +kernel))) me_int) ma_nil)))))))))))) (mss_one (ms_ret (k_call B r__law_form (by decide) (by decide +kernel) (ma_cons (me_tup (ma_cons (me_tupOf B.fit (B.b_tuple hb) (k_var B (i := 3) rfl (by decide +kernel))) (ma_cons (k_call B r__law_pairing (by decide) (by decide +kernel) (ma_cons (k_var B (i := 0) rfl (by decide +kernel)) (ma_cons (me_mul B.fit me_int (k_var B (i := 2) rfl (by decide +kernel))) (ma_cons (k_var B (i := 1) rfl (by decide +kernel)) ma_nil)))) (ma_cons (me_tupOf B.fit (B.b_tuple hb) (k_var B (i := 4) rfl (by decide +kernel))) ma_nil)))) (ma_cons me_int ma_nil)))))))
def N__law_simplex : List Str := ["n", "rows", "k", "longer", "own", "places", "x", "i"]
def b__law_simplex : TSm := (sSeq (sAsg (lF false (lDisp (aCons (mTup aNil) aNil))) (gN 1)) (sSeq (sFor (iRg1 (m2 fAdd (mVar 0) (mCon (.int 1)))) (gN 2) (sSeq (sAsg (lF false (lDisp aNil)) (gN 3)) (sSeq (sFor (iOf (mVar 1)) (gN 4) (sAsg (lF false (l2 fCatL (mVar 3) (lF false (lComp [6] (iRg1 (m2 fAdd (mVar 0) (mCon (.int 1)))) (gN 6) (mT (m2 (fIn true) (mVar 6) (mVar 4))) (m2 fAdd (mVar 4) (mTup (aCons (mVar 6) aNil))))))) (gN 3))) (sAsg (mVar 3) (gN 1))))) (sSeq (sAsg (m1 fDOf (lF false (lComp [6, 4] (iEnL (mVar 1)) (gT [(gN 6), (gN 4)]) bYes (mTup (aCons (mVar 4) (aCons (mVar 6) aNil)))))) (gN 5)) (sRet (m1 fTup (lF false (lComp [7] (iRg1 (mVar 0)) (gN 7) bYes (m1 fTup (lF false (lComp [4] (iOf (mVar 1)) (gN 4) bYes (m2 fDGet (mVar 5) (m2 fAdd (m2 fAdd (mCut (mVar 4) oNo (oAt (mVar 7))) (mTup (aCons (m2 fIdx (mVar 4) (m2 fAdd (mVar 7) (mCon (.int 1)))) (aCons (m2 fIdx (mVar 4) (mVar 7)) aNil)))) (mCut (mVar 4) (oAt (m2 fAdd (mVar 7) (mCon (.int 2)))) oNo)))))))))))))
def sp__law_simplex : FSp := fSp b__law_simplex 8 1
theorem d__law_simplex {G : Gd} (hb : Bs G) (HC : ClsT G) (HT : IsT G) (HX : ExT G)  : ∀ A X, Bd 0 N__law_simplex (defScope (top 49)) G.P G.w G.K G.mg G.base A X → MSs A X (defBody (top 49)) b__law_simplex := by
  intro A X B0
  have B := B0.ct (by decide +kernel)
  exact (mss_cons (k_set B rfl (by decide +kernel) (.inl (B0.fn _)) (me_lF false (ml_disp (ma_cons (me_tup ma_nil) ma_nil)))) (mss_cons (ms_for (vs := [2]) B0.po B.calm (mi_rg1 B.fit (B.b_range hb) (me_add B.fit (k_var B (i := 0) rfl (by decide +kernel)) me_int)) (k_gN B rfl (by decide +kernel) rfl (.inr (by decide +kernel))) (mss_cons (k_set B rfl (by decide +kernel) (.inr (by decide +kernel)) (me_lF false (ml_disp ma_nil))) (mss_cons (ms_for (vs := [4]) B0.po B.calm (mi_of B.fit (k_var B (i := 1) rfl (by decide +kernel))) (k_gN B rfl (by decide +kernel) rfl (.inl (B0.fn _))) (mss_one (k_set B rfl (by decide +kernel) (.inr (by decide +kernel)) (me_lF false (ml_cat B.fit (k_var B (i := 3) rfl (by decide +kernel)) (me_lF false (q_comp B [("x", 6)] (mi_rg1 B.fit (B.b_range hb) (me_add B.fit (k_var B (i := 0) rfl (by decide +kernel)) me_int)) ⟨rfl, by decide +kernel, by decide +kernel, by decide +kernel, by decide +kernel⟩ (fun A1 X1 B1 => (k_gN B1.toCt rfl (by decide +kernel) rfl (.inr (by decide +kernel)))) (fun A1 X1 B1 => (mts_one (mt_cmp B1.toCt.fit c_nin (k_var B1.toCt (i := 6) rfl (by decide +kernel)) (k_var B1.toCt (i := 4) rfl (by decide +kernel)) (by rfl)))) (fun A1 X1 B1 => (me_add B1.toCt.fit (k_var B1.toCt (i := 4) rfl (by decide +kernel)) (me_tup (ma_cons (k_var B1.toCt (i := 6) rfl (by decide +kernel)) ma_nil))))))))))) (mss_one (k_set B rfl (by decide +kernel) (.inl (B0.fn _)) (k_var B (i := 3) rfl (by decide +kernel))))))) (mss_cons (k_set B rfl (by decide +kernel) (.inl (B0.fn _)) (me_dOf B.fit B.calm B.u200 (B.b_dict hb) (me_lF false (q_comp B [("x", 6), ("own", 4)] (mi_enL B.fit (B.b_enumerate hb) (k_var B (i := 1) rfl (by decide +kernel))) ⟨rfl, by decide +kernel, by decide +kernel, by decide +kernel, by decide +kernel⟩ (fun A1 X1 B1 => (mg_tup B1.toCt.fit B1.toCt.calm (mgs_cons (k_gN B1.toCt rfl (by decide +kernel) rfl (.inr (by decide +kernel))) (mgs_cons (k_gN B1.toCt rfl (by decide +kernel) rfl (.inr (by decide +kernel))) mgs_nil)))) (fun A1 X1 B1 => mts_nil) (fun A1 X1 B1 => (me_tup (ma_cons (k_var B1.toCt (i := 4) rfl (by decide +kernel)) (ma_cons (k_var B1.toCt (i := 6) rfl (by decide +kernel)) ma_nil)))))))) (mss_one (ms_ret (me_tupOf B.fit (B.b_tuple hb) (me_lF false (q_comp B [("i", 7)] (mi_rg1 B.fit (B.b_range hb) (k_var B (i := 0) rfl (by decide +kernel))) ⟨rfl, by decide +kernel, by decide +kernel, by decide +kernel, by decide +kernel⟩ (fun A1 X1 B1 => (k_gN B1.toCt rfl (by decide +kernel) rfl (.inl ((B1.fn _).trans (by decide +kernel))))) (fun A1 X1 B1 => mts_nil) (fun A1 X1 B1 => (me_tupOf B1.toCt.fit (B1.toCt.b_tuple hb) (me_lF false (q_comp B1.toCt [("own", 4)] (mi_of B1.toCt.fit (k_var B1.toCt (i := 1) rfl (by decide +kernel))) ⟨rfl, by decide +kernel, by decide +kernel, by decide +kernel, by decide +kernel⟩ (fun A2 X2 B2 => (k_gN B2.toCt rfl (by decide +kernel) rfl (.inr (by decide +kernel)))) (fun A2 X2 B2 => mts_nil) (fun A2 X2 B2 => (me_dget B2.toCt.fit B2.toCt.u1 (k_var B2.toCt (i := 5) rfl (by decide +kernel)) (me_add B2.toCt.fit (me_add B2.toCt.fit (me_cut B2.toCt.fit (k_var B2.toCt (i := 4) rfl (by decide +kernel)) mo_no (mo_at (k_var B2.toCt (i := 7) rfl (by decide +kernel)))) (me_tup (ma_cons (me_idx B2.toCt.fit (k_var B2.toCt (i := 4) rfl (by decide +kernel)) (me_add B2.toCt.fit (k_var B2.toCt (i := 7) rfl (by decide +kernel)) me_int)) (ma_cons (me_idx B2.toCt.fit (k_var B2.toCt (i := 4) rfl (by decide +kernel)) (k_var B2.toCt (i := 7) rfl (by decide +kernel))) ma_nil)))) (me_cut B2.toCt.fit (k_var B2.toCt (i := 4) rfl (by decide +kernel)) (mo_at (me_add B2.toCt.fit (k_var B2.toCt (i := 7) rfl (by decide +kernel)) me_int)) mo_no))))))))))))))))
def N__law_flips : List Str := ["state", "kind", "p", "one", "low", "m", "x", "own"]
def b__law_flips : TSm := (sSeq (sAsg (mCall sp__law_take [] (aCons (mVar 0) (aCons (mCon (.int 8)) aNil))) (gN 1)) (sSeq (sIf (mT (m2 fEq (mVar 1) (mCon (.int 0)))) (sSeq (sAsg (m2 fAdd (mCon (.int 1)) (mCall sp__law_take [] (aCons (mVar 0) (aCons (mCon (.int 7)) aNil)))) (gN 2)) (sSeq (sAsg (lF false (lComp [6] (iRg1 (m2 fMul (mCon (.int 2)) (mVar 2))) (gN 6) bYes (mIf (mT (m2 fEq (m2 fMod (m1 fInt (mVar 6)) (mCon (.int 2))) (mCon (.int 0)))) (m2 fAdd (mVar 6) (mCon (.int 1))) (m2 fSub (mVar 6) (mCon (.int 1)))))) (gN 3)) (sRet (mCall sp__law_form [] (aCons (mTup (aCons (m1 fTup (mVar 3)) (aCons (m1 fTup (lF false (lComp [6] (iRg1 (m2 fMul (mCon (.int 2)) (mVar 2))) (gN 6) bYes (mIf (mT (m2 fEq (m2 fMod (m1 fInt (mVar 6)) (mCon (.int 2))) (mCon (.int 0)))) (m2 fMod (m1 fInt (m2 fSub (mVar 6) (mCon (.int 1)))) (m2 fMul (mCon (.int 2)) (mVar 2))) (m2 fMod (m1 fInt (m2 fAdd (mVar 6) (mCon (.int 1)))) (m2 fMul (mCon (.int 2)) (mVar 2))))))) aNil))) (aCons (mCon (.int 0)) aNil)))))) sNil) (sSeq (sIf (mT (m2 fLt (mVar 1) (mCon (.int 3)))) (sRet (mCall sp__law_map [] (aCons (mVar 0) (aCons (mCon (.bl false)) aNil)))) sNil) (sSeq (sIf (mT (m2 fEq (mVar 1) (mCon (.int 3)))) (sRet (mCall sp__law_map [] (aCons (mVar 0) (aCons (mCon (.bl true)) aNil)))) sNil) (sSeq (sIf (mT (m2 fEq (mVar 1) (mCon (.int 4)))) (sSeq (sAsg (mCall sp__law_map [] (aCons (mVar 0) (aCons (mCon (.bl false)) aNil))) (gN 4)) (sSeq (sAsg (m1 fLen (m2 fIdx (mVar 4) (mCon (.int 0)))) (gN 5)) (sRet (m2 fAdd (m1 fTup (lF false (lComp [7] (iOf (mVar 4)) (gN 7) bYes (m2 fAdd (mVar 7) (m1 fTup (lF false (lComp [6] (iOf (mVar 7)) (gN 6) bYes (m2 fAdd (mVar 6) (mVar 5))))))))) (mTup (aCons (m1 fTup (lF false (lComp [6] (iRg1 (m2 fMul (mCon (.int 2)) (mVar 5))) (gN 6) bYes (m2 fMod (m1 fInt (m2 fAdd (mVar 6) (mVar 5))) (m2 fMul (mCon (.int 2)) (mVar 5)))))) aNil)))))) sNil) (sSeq (sIf (mT (m2 fEq (mVar 1) (mCon (.int 5)))) (sSeq (sAsg (m2 fAdd (mCon (.int 2)) (mCall sp__law_take [] (aCons (mVar 0) (aCons (mCon (.int 7)) aNil)))) (gN 5)) (sRet (mCall sp__law_form [] (aCons (mTup (aCons (mCall sp__law_pairing [] (aCons (mVar 0) (aCons (mVar 5) (aCons (mCon (.bl true)) aNil)))) (aCons (mCall sp__law_pairing [] (aCons (mVar 0) (aCons (mVar 5) (aCons (mCon (.bl true)) aNil)))) aNil))) (aCons (mCon (.int 0)) aNil))))) sNil) (sSeq (sIf (mT (m2 fEq (mVar 1) (mCon (.int 6)))) (sRet (mCall sp__law_simplex [] (aCons (mIf (mT (m2 fGt (mCall sp__law_take [] (aCons (mVar 0) (aCons (mCon (.int 3)) aNil))) (mCon (.int 0)))) (mCon (.int 3)) (mCon (.int 2))) aNil))) sNil) (sRet (mIf (mT (m2 fGt (mCall sp__law_take [] (aCons (mVar 0) (aCons (mCon (.int 3)) aNil))) (mCon (.int 0)))) (mTup (aCons (mTup (aCons (mCon (.int 1)) (aCons (mCon (.int 0)) aNil))) aNil)) (m2 fMul (mTup (aCons (mTup (aCons (mCon (.int 0)) aNil)) aNil)) (m2 fAdd (mCon (.int 1)) (mCall sp__law_take [] (aCons (mVar 0) (aCons (mCon (.int 3)) aNil))))))))))))))
def sp__law_flips : FSp := fSp b__law_flips 8 1
theorem d__law_flips {G : Gd} (hb : Bs G) (HC : ClsT G) (HT : IsT G) (HX : ExT G) (r__law_form : FnR G 2 "_law_form" sp__law_form []) (r__law_map : FnR G 3 "_law_map" sp__law_map []) (r__law_pairing : FnR G 2 "_law_pairing" sp__law_pairing []) (r__law_simplex : FnR G 1 "_law_simplex" sp__law_simplex []) (r__law_take : FnR G 1 "_law_take" sp__law_take []) : ∀ A X, Bd 3 N__law_flips (defScope (top 50)) G.P G.w G.K G.mg G.base A X → MSs A X (defBody (top 50)) b__law_flips := by
  intro A X B0
  have B := B0.ct (by decide +kernel)
  exact (mss_cons (k_set B rfl (by decide +kernel) (.inr (by decide +kernel)) (k_call B r__law_take (by decide) (by decide +kernel) (ma_cons (k_var B (i := 0) rfl (by decide +kernel)) (ma_cons me_int ma_nil)))) (mss_cons (ms_if (mt_cmp B.fit (c_eq B.u64) (k_var B (i := 1) rfl (by decide +kernel)) me_int (by rfl)) (mss_cons (k_set B rfl (by decide +kernel) (.inl (B0.fn _)) (me_add B.fit me_int (k_call B r__law_take (by decide) (by decide +kernel) (ma_cons (k_var B (i := 0) rfl (by decide +kernel)) (ma_cons me_int ma_nil))))) (mss_cons (q_setLc B [("x", 6)] false rfl (by decide +kernel) rfl (by decide +kernel) (by decide +kernel) (mi_rg1 B.fit (B.b_range hb) (me_mul B.fit me_int (k_var B (i := 2) rfl (by decide +kernel)))) ⟨rfl, by decide +kernel, by decide +kernel, by decide +kernel, by decide +kernel⟩ (fun A1 X1 B1 => (k_gN B1.toCt rfl (by decide +kernel) rfl (.inr (by decide +kernel)))) (fun A1 X1 B1 => mts_nil) (fun A1 X1 B1 => (me_if (mt_cmp B1.toCt.fit (c_eq B1.toCt.u64) (me_mod B1.toCt.fit (me_intOf B1.toCt.fit (B1.toCt.b_int hb) (k_var B1.toCt (i := 6) rfl (by decide +kernel))) me_int) me_int (by rfl)) (me_add B1.toCt.fit (k_var B1.toCt (i := 6) rfl (by decide +kernel)) me_int) (me_sub B1.toCt.fit (k_var B1.toCt (i := 6) rfl (by decide +kernel)) me_int)))) (mss_one (ms_ret (k_call B r__law_form (by decide) (by decide +kernel) (ma_cons (me_tup (ma_cons (me_tupOf B.fit (B.b_tuple hb) (k_var B (i := 3) rfl (by decide +kernel))) (ma_cons (me_tupOf B.fit (B.b_tuple hb) (me_lF false (q_comp B [("x", 6)] (mi_rg1 B.fit (B.b_range hb) (me_mul B.fit me_int (k_var B (i := 2) rfl (by decide +kernel)))) ⟨rfl, by decide +kernel, by decide +kernel, by decide +kernel, by decide +kernel⟩ (fun A1 X1 B1 => (k_gN B1.toCt rfl (by decide +kernel) rfl (.inr (by decide +kernel)))) (fun A1 X1 B1 => mts_nil) (fun A1 X1 B1 => (me_if (mt_cmp B1.toCt.fit (c_eq B1.toCt.u64) (me_mod B1.toCt.fit (me_intOf B1.toCt.fit (B1.toCt.b_int hb) (k_var B1.toCt (i := 6) rfl (by decide +kernel))) me_int) me_int (by rfl)) (me_mod B1.toCt.fit (me_intOf B1.toCt.fit (B1.toCt.b_int hb) (me_sub B1.toCt.fit (k_var B1.toCt (i := 6) rfl (by decide +kernel)) me_int)) (me_mul B1.toCt.fit me_int (k_var B1.toCt (i := 2) rfl (by decide +kernel)))) (me_mod B1.toCt.fit (me_intOf B1.toCt.fit (B1.toCt.b_int hb) (me_add B1.toCt.fit (k_var B1.toCt (i := 6) rfl (by decide +kernel)) me_int)) (me_mul B1.toCt.fit me_int (k_var B1.toCt (i := 2) rfl (by decide +kernel))))))))) ma_nil))) (ma_cons me_int ma_nil))))))) mss_nil) (mss_cons (ms_if (mt_cmp B.fit c_lt (k_var B (i := 1) rfl (by decide +kernel)) me_int (by rfl)) (mss_one (ms_ret (k_call B r__law_map (by decide) (by decide +kernel) (ma_cons (k_var B (i := 0) rfl (by decide +kernel)) (ma_cons me_bl ma_nil))))) mss_nil) (mss_cons (ms_if (mt_cmp B.fit (c_eq B.u64) (k_var B (i := 1) rfl (by decide +kernel)) me_int (by rfl)) (mss_one (ms_ret (k_call B r__law_map (by decide) (by decide +kernel) (ma_cons (k_var B (i := 0) rfl (by decide +kernel)) (ma_cons me_bl ma_nil))))) mss_nil) (mss_cons (ms_if (mt_cmp B.fit (c_eq B.u64) (k_var B (i := 1) rfl (by decide +kernel)) me_int (by rfl)) (mss_cons (k_set B rfl (by decide +kernel) (.inr (by decide +kernel)) (k_call B r__law_map (by decide) (by decide +kernel) (ma_cons (k_var B (i := 0) rfl (by decide +kernel)) (ma_cons me_bl ma_nil)))) (mss_cons (k_set B rfl (by decide +kernel) (.inl (B0.fn _)) (me_len B.fit (B.b_len hb) (me_idx B.fit (k_var B (i := 4) rfl (by decide +kernel)) me_int))) (mss_one (ms_ret (me_add B.fit (me_tupOf B.fit (B.b_tuple hb) (me_lF false (q_comp B [("own", 7)] (mi_of B.fit (k_var B (i := 4) rfl (by decide +kernel))) ⟨rfl, by decide +kernel, by decide +kernel, by decide +kernel, by decide +kernel⟩ (fun A1 X1 B1 => (k_gN B1.toCt rfl (by decide +kernel) rfl (.inr (by decide +kernel)))) (fun A1 X1 B1 => mts_nil) (fun A1 X1 B1 => (me_add B1.toCt.fit (k_var B1.toCt (i := 7) rfl (by decide +kernel)) (me_tupOf B1.toCt.fit (B1.toCt.b_tuple hb) (me_lF false (q_comp B1.toCt [("x", 6)] (mi_of B1.toCt.fit (k_var B1.toCt (i := 7) rfl (by decide +kernel))) ⟨rfl, by decide +kernel, by decide +kernel, by decide +kernel, by decide +kernel⟩ (fun A2 X2 B2 => (k_gN B2.toCt rfl (by decide +kernel) rfl (.inr (by decide +kernel)))) (fun A2 X2 B2 => mts_nil) (fun A2 X2 B2 => (me_add B2.toCt.fit (k_var B2.toCt (i := 6) rfl (by decide +kernel)) (k_var B2.toCt (i := 5) rfl (by decide +kernel)))))))))))) (me_tup (ma_cons (me_tupOf B.fit (B.b_tuple hb) (me_lF false (q_comp B [("x", 6)] (mi_rg1 B.fit (B.b_range hb) (me_mul B.fit me_int (k_var B (i := 5) rfl (by decide +kernel)))) ⟨rfl, by decide +kernel, by decide +kernel, by decide +kernel, by decide +kernel⟩ (fun A1 X1 B1 => (k_gN B1.toCt rfl (by decide +kernel) rfl (.inr (by decide +kernel)))) (fun A1 X1 B1 => mts_nil) (fun A1 X1 B1 => (me_mod B1.toCt.fit (me_intOf B1.toCt.fit (B1.toCt.b_int hb) (me_add B1.toCt.fit (k_var B1.toCt (i := 6) rfl (by decide +kernel)) (k_var B1.toCt (i := 5) rfl (by decide +kernel)))) (me_mul B1.toCt.fit me_int (k_var B1.toCt (i := 5) rfl (by decide +kernel)))))))) ma_nil))))))) mss_nil) (mss_cons (ms_if (mt_cmp B.fit (c_eq B.u64) (k_var B (i := 1) rfl (by decide +kernel)) me_int (by rfl)) (mss_cons (k_set B rfl (by decide +kernel) (.inl (B0.fn _)) (me_add B.fit me_int (k_call B r__law_take (by decide) (by decide +kernel) (ma_cons (k_var B (i := 0) rfl (by decide +kernel)) (ma_cons me_int ma_nil))))) (mss_one (ms_ret (k_call B r__law_form (by decide) (by decide +kernel) (ma_cons (me_tup (ma_cons (k_call B r__law_pairing (by decide) (by decide +kernel) (ma_cons (k_var B (i := 0) rfl (by decide +kernel)) (ma_cons (k_var B (i := 5) rfl (by decide +kernel)) (ma_cons me_bl ma_nil)))) (ma_cons (k_call B r__law_pairing (by decide) (by decide +kernel) (ma_cons (k_var B (i := 0) rfl (by decide +kernel)) (ma_cons (k_var B (i := 5) rfl (by decide +kernel)) (ma_cons me_bl ma_nil)))) ma_nil))) (ma_cons me_int ma_nil)))))) mss_nil) (mss_cons (ms_if (mt_cmp B.fit (c_eq B.u64) (k_var B (i := 1) rfl (by decide +kernel)) me_int (by rfl)) (mss_one (ms_ret (k_call B r__law_simplex (by decide) (by decide +kernel) (ma_cons (me_if (mt_cmp B.fit c_gt (k_call B r__law_take (by decide) (by decide +kernel) (ma_cons (k_var B (i := 0) rfl (by decide +kernel)) (ma_cons me_int ma_nil))) me_int (by rfl)) me_int me_int) ma_nil)))) mss_nil) (mss_one (ms_ret (me_if (mt_cmp B.fit c_gt (k_call B r__law_take (by decide) (by decide +kernel) (ma_cons (k_var B (i := 0) rfl (by decide +kernel)) (ma_cons me_int ma_nil))) me_int (by rfl)) (me_tup (ma_cons (me_tup (ma_cons me_int (ma_cons me_int ma_nil))) ma_nil)) (me_mul B.fit (me_tup (ma_cons (me_tup (ma_cons me_int ma_nil)) ma_nil)) (me_add B.fit me_int (k_call B r__law_take (by decide) (by decide +kernel) (ma_cons (k_var B (i := 0) rfl (by decide +kernel)) (ma_cons me_int ma_nil)))))))))))))))
def N__law_lots : List Str := ["flips", "kept", "m", "seen", "found", "x", "own", "y", "i"]
def b__law_lots : TSm := (sSeq (sPar 3 4 (aCons (lF true (l2 fRepL (lF false (lDisp (aCons (mCon (.bl false)) aNil))) (mVar 2))) (aCons (lF true (lDisp aNil)) aNil))) (sSeq (sFor (iRg1 (mVar 2)) (gN 5) (sIf (bNot (mT (m2 fIdx (mVar 3) (mVar 5)))) (sSeq (sAsg (lF false (l1 fSrt (mCall sp__law_line [] (aCons (lF false (lComp [8] (iOf (mVar 1)) (gN 8) bYes (m2 fIdx (mVar 0) (mVar 8)))) (aCons (mVar 5) aNil))))) (gN 6)) (sSeq (sFor (iOf (mVar 6)) (gN 7) (sAsg (mCon (.bl true)) (gSub (mVar 3) (mVar 7)))) (sExpr (mMut fApp (mVar 4) (aCons (m1 fTup (mVar 6)) aNil))))) sNil)) (sRet (m1 fTup (mVar 4)))))
def sp__law_lots : FSp := fSp b__law_lots 9 3
theorem d__law_lots {G : Gd} (hb : Bs G) (HC : ClsT G) (HT : IsT G) (HX : ExT G) (r__law_line : FnR G 1 "_law_line" sp__law_line []) : ∀ A X, Bd 1 N__law_lots (defScope (top 51)) G.P G.w G.K G.mg G.base A X → MSs A X (defBody (top 51)) b__law_lots := by
  intro A X B0
  have B := B0.ct (by decide +kernel)
  exact (mss_cons (k_par B rfl rfl (by decide) (by decide +kernel) (by decide +kernel) (ma_cons (me_lF true (ml_rep B.fit (me_lF false (ml_disp (ma_cons me_bl ma_nil))) (k_var B (i := 2) rfl (by decide +kernel)))) (ma_cons (me_lF true (ml_disp ma_nil)) ma_nil)) (fun E h => by cases E; subst h; rfl)) (mss_cons (ms_for (vs := [5]) B0.po B.calm (mi_rg1 B.fit (B.b_range hb) (k_var B (i := 2) rfl (by decide +kernel))) (k_gN B rfl (by decide +kernel) rfl (.inr (by decide +kernel))) (mss_one (ms_if (mt_not (mt_val (me_idx B.fit (k_var B (i := 3) rfl (by decide +kernel)) (k_var B (i := 5) rfl (by decide +kernel))))) (mss_cons (k_set B rfl (by decide +kernel) (.inr (by decide +kernel)) (me_lF false (ml_srt B.fit B.u200 (B.b_sorted hb) (k_call B r__law_line (by decide) (by decide +kernel) (ma_cons (me_lF false (q_comp B [("i", 8)] (mi_of B.fit (k_var B (i := 1) rfl (by decide +kernel))) ⟨rfl, by decide +kernel, by decide +kernel, by decide +kernel, by decide +kernel⟩ (fun A1 X1 B1 => (k_gN B1.toCt rfl (by decide +kernel) rfl (.inr (by decide +kernel)))) (fun A1 X1 B1 => mts_nil) (fun A1 X1 B1 => (me_idx B1.toCt.fit (k_var B1.toCt (i := 0) rfl (by decide +kernel)) (k_var B1.toCt (i := 8) rfl (by decide +kernel)))))) (ma_cons (k_var B (i := 5) rfl (by decide +kernel)) ma_nil)))))) (mss_cons (ms_for (vs := [7]) B0.po B.calm (mi_of B.fit (k_var B (i := 6) rfl (by decide +kernel))) (k_gN B rfl (by decide +kernel) rfl (.inr (by decide +kernel))) (mss_one (ms_asg (vs := []) me_bl (mg_sub (k_var B.nox (i := 3) rfl (by decide +kernel)) (k_var B.nox (i := 7) rfl (by decide +kernel)))))) (mss_one (ms_expr (me_app B.fit (k_var B (i := 4) rfl (by decide +kernel)) (ma_cons (me_tupOf B.fit (B.b_tuple hb) (k_var B (i := 6) rfl (by decide +kernel))) ma_nil)))))) mss_nil))) (mss_one (ms_ret (me_tupOf B.fit (B.b_tuple hb) (k_var B (i := 4) rfl (by decide +kernel)))))))
def N__law_choose : List Str := ["n", "k", "found", "j"]
def b__law_choose : TSm := (sSeq (sAsg (mCon (.int 1)) (gN 2)) (sSeq (sFor (iRg1 (mVar 1)) (gN 3) (sAsg (m2 fDiv (m2 fMul (mVar 2) (m2 fSub (mVar 0) (mVar 3))) (m2 fAdd (mVar 3) (mCon (.int 1)))) (gN 2))) (sRet (mVar 2))))
def sp__law_choose : FSp := fSp b__law_choose 4 2
theorem d__law_choose {G : Gd} (hb : Bs G) (HC : ClsT G) (HT : IsT G) (HX : ExT G)  : ∀ A X, Bd 0 N__law_choose (defScope (top 52)) G.P G.w G.K G.mg G.base A X → MSs A X (defBody (top 52)) b__law_choose := by
  intro A X B0
  have B := B0.ct (by decide +kernel)
  exact (mss_cons (k_set B rfl (by decide +kernel) (.inr (by decide +kernel)) me_int) (mss_cons (ms_for (vs := [3]) B0.po B.calm (mi_rg1 B.fit (B.b_range hb) (k_var B (i := 1) rfl (by decide +kernel))) (k_gN B rfl (by decide +kernel) rfl (.inr (by decide +kernel))) (mss_one (k_set B rfl (by decide +kernel) (.inr (by decide +kernel)) (me_div B.fit (me_mul B.fit (k_var B (i := 2) rfl (by decide +kernel)) (me_sub B.fit (k_var B (i := 0) rfl (by decide +kernel)) (k_var B (i := 3) rfl (by decide +kernel)))) (me_add B.fit (k_var B (i := 3) rfl (by decide +kernel)) me_int))))) (mss_one (ms_ret (k_var B (i := 2) rfl (by decide +kernel))))))
def N__law_net_holds : List Str := ["state", "flips", "n", "m", "net", "kept", "lots", "places", "rows", "x", "i", "j", "a", "b", "met", "lot", "k", "own", "row"]
def b__law_net_holds : TSm := (sSeq (sAsg (mCall sp__law_flips [] (aCons (mVar 0) aNil)) (gN 1)) (sSeq (sAsg (mTup (aCons (m1 fLen (mVar 1)) (aCons (m1 fLen (m2 fIdx (mVar 1) (mCon (.int 0)))) aNil))) (gT [(gN 2), (gN 3)])) (sSeq (sAsg (mTup (aCons (mMake "Net" sp_Net_init [] (aCons (mVar 1) aNil)) (aCons (m1 fTup (lF false (lComp [10] (iRg1 (mVar 2)) (gN 10) (mT (m2 fEq (mCall sp__law_take [] (aCons (mVar 0) (aCons (mCon (.int 2)) aNil))) (mCon (.int 0)))) (mVar 10)))) aNil))) (gT [(gN 4), (gN 5)])) (sSeq (sIf (bNot (mT (mCall (sp__law_same 4) [] (aCons (mCall sp_components [] (aCons (mVar 4) (aCons (mVar 5) aNil))) (aCons (mCall sp__law_lots [] (aCons (mVar 1) (aCons (mVar 5) (aCons (mVar 3) aNil)))) aNil))))) (sRet (mCon (.bl false))) sNil) (sSeq (sAsg (lF false (lComp [10] (iRg1 (mVar 2)) (gN 10) bYes (mCall sp__law_lots [] (aCons (mVar 1) (aCons (lF false (lComp [11] (iRg1 (mVar 2)) (gN 11) (mT (m2 fNe (mVar 11) (mVar 10))) (mVar 11))) (aCons (mVar 3) aNil)))))) (gN 6)) (sSeq (sAsg (lF false (lComp [15] (iOf (mVar 6)) (gN 15) bYes (lF false (lComp [9] (iRg1 (mVar 3)) (gN 9) bYes (m2 fIdx (lF false (lComp [16, 17] (iEnTu (mVar 15)) (gT [(gN 16), (gN 17)]) (mT (m2 (fIn false) (mVar 9) (mVar 17))) (mVar 16))) (mCon (.int 0))))))) (gN 7)) (sSeq (sIf (bOr (mT (m2 fNe (lF false (lComp [10] (iRg1 (mVar 2)) (gN 10) bYes (mCall sp_faces [] (aCons (mVar 4) (aCons (mVar 10) aNil))))) (mVar 6))) (bNot (mT (mCall (sp__law_same 4) [] (aCons (mCall sp_face_row [] (aCons (mVar 4) aNil)) (aCons (m1 fTup (lF false (lComp [15] (iOf (mVar 6)) (gN 15) bYes (m1 fLen (mVar 15))))) aNil)))))) (sRet (mCon (.bl false))) sNil) (sSeq (sIf (bNot (mT (mCall (sp__law_same 4) [] (aCons (mCall sp_euler [] (aCons (mVar 4) aNil)) (aCons (m1 fSum (lF false (lComp [10, 15] (iEnL (mVar 6)) (gT [(gN 10), (gN 15)]) bYes (m2 fMul (m1 fLen (mVar 15)) (m2 fSub (mCon (.int 1)) (m2 fMul (mCon (.int 2)) (m2 fMod (m1 fInt (mVar 10)) (mCon (.int 2))))))))) aNil))))) (sRet (mCon (.bl false))) sNil) (sSeq (sAsg (lF false (lComp [9] (iRg1 (mVar 3)) (gN 9) bYes (m1 fTup (lF false (lComp [10] (iRg1 (mVar 2)) (gN 10) bYes (m2 fIdx (m2 fIdx (mVar 7) (mVar 10)) (mVar 9))))))) (gN 8)) (sSeq (sAsg (mCall sp__law_take [] (aCons (mVar 0) (aCons (mVar 3) aNil))) (gN 9)) (sSeq (sIf (bOr (bNot (mT (mCall (sp__law_same 4) [] (aCons (mCall sp_marks [] (aCons (mVar 4) (aCons (mVar 9) aNil))) (aCons (m2 fIdx (mVar 8) (mVar 9)) aNil))))) (bOr (bNot (mT (m1 fAll (lF false (lComp [10] (iRg1 (mVar 2)) (gN 10) bYes (mCall (sp__law_same 4) [] (aCons (mCall sp_face_of [] (aCons (mVar 4) (aCons (mVar 10) (aCons (mVar 9) aNil)))) (aCons (m2 fIdx (m2 fIdx (mVar 8) (mVar 9)) (mVar 10)) aNil)))))))) (bNot (mT (mCall sp__law_says [] (aCons (mCall sp_are_told [] (aCons (mVar 4) aNil)) (aCons (m2 fEq (m1 fLenSet (mVar 8)) (mVar 3)) aNil))))))) (sRet (mCon (.bl false))) sNil) (sSeq (sIf (mT (m2 fLt (mVar 2) (mCon (.int 2)))) (sRet (mCon (.bl true))) sNil) (sSeq (sAsg (mCall sp__law_take [] (aCons (mVar 0) (aCons (m2 fSub (mVar 2) (mCon (.int 1))) aNil))) (gN 10)) (sSeq (sAsg (m2 fAdd (m2 fAdd (mVar 10) (mCon (.int 1))) (mCall sp__law_take [] (aCons (mVar 0) (aCons (m2 fSub (m2 fSub (mVar 2) (mCon (.int 1))) (mVar 10)) aNil)))) (gN 11)) (sSeq (sAsg (mTup (aCons (mCall sp__law_take [] (aCons (mVar 0) (aCons (m1 fLen (m2 fIdx (mVar 6) (mVar 10))) aNil))) (aCons (mCall sp__law_take [] (aCons (mVar 0) (aCons (m1 fLen (m2 fIdx (mVar 6) (mVar 11))) aNil))) aNil))) (gT [(gN 12), (gN 13)])) (sSeq (sAsg (m1 fAny (lF false (lComp [18] (iOf (mVar 8)) (gN 18) bYes (mAnd (m2 fEq (m2 fIdx (mVar 18) (mVar 10)) (mVar 12)) (m2 fEq (m2 fIdx (mVar 18) (mVar 11)) (mVar 13)))))) (gN 14)) (sSeq (sIf (bOr (bNot (mT (mCall sp__law_says [] (aCons (mCall sp_is_on [] (aCons (mVar 4) (aCons (mVar 10) (aCons (mVar 12) (aCons (mVar 11) (aCons (mVar 13) aNil)))))) (aCons (mVar 14) aNil))))) (bNot (mT (mCall sp__law_says [] (aCons (mCall sp_is_on [] (aCons (mVar 4) (aCons (mVar 11) (aCons (mVar 13) (aCons (mVar 10) (aCons (mVar 12) aNil)))))) (aCons (mVar 14) aNil)))))) (sRet (mCon (.bl false))) sNil) (sRet (mCall sp__law_says [] (aCons (mCall sp_is_flat [] (aCons (mVar 4) (aCons (mVar 10) (aCons (mVar 11) aNil)))) (aCons (m2 fEq (m1 fLenSet (lF false (lComp [18] (iOf (mVar 8)) (gN 18) bYes (mTup (aCons (m2 fIdx (mVar 18) (mVar 10)) (aCons (m2 fIdx (mVar 18) (mVar 11)) aNil)))))) (m2 fMul (m1 fLen (m2 fIdx (mVar 6) (mVar 10))) (m1 fLen (m2 fIdx (mVar 6) (mVar 11))))) aNil)))))))))))))))))))))
def sp__law_net_holds : FSp := fSp b__law_net_holds 19 1
theorem d__law_net_holds {G : Gd} (hb : Bs G) (HC : ClsT G) (HT : IsT G) (HX : ExT G) (r__law_flips : FnR G 4 "_law_flips" sp__law_flips []) (r__law_lots : FnR G 2 "_law_lots" sp__law_lots []) (r__law_same : FnR G 6 "_law_same" (sp__law_same 4) []) (r__law_says : FnR G 1 "_law_says" sp__law_says []) (r__law_take : FnR G 1 "_law_take" sp__law_take []) (r_are_told : FnR G 7 "are_told" sp_are_told []) (r_components : FnR G 5 "components" sp_components []) (r_euler : FnR G 6 "euler" sp_euler []) (r_face_of : FnR G 6 "face_of" sp_face_of []) (r_face_row : FnR G 5 "face_row" sp_face_row []) (r_faces : FnR G 4 "faces" sp_faces []) (r_is_flat : FnR G 6 "is_flat" sp_is_flat []) (r_is_on : FnR G 5 "is_on" sp_is_on []) (r_marks : FnR G 7 "marks" sp_marks []) (r_Net : MkR G 5 "Net" sp_Net_init []) : ∀ A X, Bd 7 N__law_net_holds (defScope (top 53)) G.P G.w G.K G.mg G.base A X → MSs A X (defBody (top 53)) b__law_net_holds := by
  intro A X B0
  have B := B0.ct (by decide +kernel)
  exact (mss_cons (k_set B rfl (by decide +kernel) (.inl (B0.fn _)) (k_call B r__law_flips (by decide) (by decide +kernel) (ma_cons (k_var B (i := 0) rfl (by decide +kernel)) ma_nil))) (mss_cons (k_asg (vs := [2, 3]) B (me_tup (ma_cons (me_len B.fit (B.b_len hb) (k_var B (i := 1) rfl (by decide +kernel))) (ma_cons (me_len B.fit (B.b_len hb) (me_idx B.fit (k_var B (i := 1) rfl (by decide +kernel)) me_int)) ma_nil))) (mg_tup B.fit B.calm (mgs_cons (k_gN B rfl (by decide +kernel) rfl (.inl (B0.fn _))) (mgs_cons (k_gN B rfl (by decide +kernel) rfl (.inl (B0.fn _))) mgs_nil))) (fun E h => by cases E; subst h; rfl)) (mss_cons (k_asg (vs := [4, 5]) B (me_tup (ma_cons (k_make B r_Net (by decide) (by decide +kernel) (ma_cons (k_var B (i := 1) rfl (by decide +kernel)) ma_nil)) (ma_cons (me_tupOf B.fit (B.b_tuple hb) (me_lF false (q_comp B [("i", 10)] (mi_rg1 B.fit (B.b_range hb) (k_var B (i := 2) rfl (by decide +kernel))) ⟨rfl, by decide +kernel, by decide +kernel, by decide +kernel, by decide +kernel⟩ (fun A1 X1 B1 => (k_gN B1.toCt rfl (by decide +kernel) rfl (.inr (by decide +kernel)))) (fun A1 X1 B1 => (mts_one (mt_cmp B1.toCt.fit (c_eq B1.toCt.u64) (k_call B1.toCt r__law_take (by decide) (by decide +kernel) (ma_cons (k_var B1.toCt (i := 0) rfl (by decide +kernel)) (ma_cons me_int ma_nil))) me_int (by rfl)))) (fun A1 X1 B1 => (k_var B1.toCt (i := 10) rfl (by decide +kernel)))))) ma_nil))) (mg_tup B.fit B.calm (mgs_cons (k_gN B rfl (by decide +kernel) rfl (.inl (B0.fn _))) (mgs_cons (k_gN B rfl (by decide +kernel) rfl (.inr (by decide +kernel))) mgs_nil))) (fun E h => by cases E; subst h; rfl)) (mss_cons (ms_if (mt_not (mt_val (k_call B r__law_same (by decide) (by decide +kernel) (ma_cons (k_call B r_components (by decide) (by decide +kernel) (ma_cons (k_var B (i := 4) rfl (by decide +kernel)) (ma_cons (k_var B (i := 5) rfl (by decide +kernel)) ma_nil))) (ma_cons (k_call B r__law_lots (by decide) (by decide +kernel) (ma_cons (k_var B (i := 1) rfl (by decide +kernel)) (ma_cons (k_var B (i := 5) rfl (by decide +kernel)) (ma_cons (k_var B (i := 3) rfl (by decide +kernel)) ma_nil)))) ma_nil))))) (mss_one (ms_ret me_bl)) mss_nil) (mss_cons (q_setLc B [("i", 10)] false rfl (by decide +kernel) rfl (by decide +kernel) (by decide +kernel) (mi_rg1 B.fit (B.b_range hb) (k_var B (i := 2) rfl (by decide +kernel))) ⟨rfl, by decide +kernel, by decide +kernel, by decide +kernel, by decide +kernel⟩ (fun A1 X1 B1 => (k_gN B1.toCt rfl (by decide +kernel) rfl (.inl ((B1.fn _).trans (by decide +kernel))))) (fun A1 X1 B1 => mts_nil) (fun A1 X1 B1 => (k_call B1.toCt r__law_lots (by decide) (by decide +kernel) (ma_cons (k_var B1.toCt (i := 1) rfl (by decide +kernel)) (ma_cons (me_lF false (q_comp B1.toCt [("j", 11)] (mi_rg1 B1.toCt.fit (B1.toCt.b_range hb) (k_var B1.toCt (i := 2) rfl (by decide +kernel))) ⟨rfl, by decide +kernel, by decide +kernel, by decide +kernel, by decide +kernel⟩ (fun A2 X2 B2 => (k_gN B2.toCt rfl (by decide +kernel) rfl (.inr (by decide +kernel)))) (fun A2 X2 B2 => (mts_one (mt_cmp B2.toCt.fit (c_ne B2.toCt.u64) (k_var B2.toCt (i := 11) rfl (by decide +kernel)) (k_var B2.toCt (i := 10) rfl (by decide +kernel)) (by rfl)))) (fun A2 X2 B2 => (k_var B2.toCt (i := 11) rfl (by decide +kernel))))) (ma_cons (k_var B1.toCt (i := 3) rfl (by decide +kernel)) ma_nil)))))) (mss_cons (q_set B rfl (by decide +kernel) (.inl (B0.fn _)) (me_lF false (q_comp B [("lot", 15)] (mi_of B.fit (k_var B (i := 6) rfl (by decide +kernel))) ⟨rfl, by decide +kernel, by decide +kernel, by decide +kernel, by decide +kernel⟩ (fun A1 X1 B1 => (k_gN B1.toCt rfl (by decide +kernel) rfl (.inl ((B1.fn _).trans (by decide +kernel))))) (fun A1 X1 B1 => mts_nil) (fun A1 X1 B1 => (me_lF false (q_comp B1.toCt [("x", 9)] (mi_rg1 B1.toCt.fit (B1.toCt.b_range hb) (k_var B1.toCt (i := 3) rfl (by decide +kernel))) ⟨rfl, by decide +kernel, by decide +kernel, by decide +kernel, by decide +kernel⟩ (fun A2 X2 B2 => (k_gN B2.toCt rfl (by decide +kernel) rfl (.inl ((B2.fn _).trans (by decide +kernel))))) (fun A2 X2 B2 => mts_nil) (fun A2 X2 B2 => (me_idx B2.toCt.fit (me_lF false (q_comp B2.toCt [("k", 16), ("own", 17)] (mi_enT B2.toCt.fit (B2.toCt.b_enumerate hb) (k_var B2.toCt (i := 15) rfl (by decide +kernel))) ⟨rfl, by decide +kernel, by decide +kernel, by decide +kernel, by decide +kernel⟩ (fun A3 X3 B3 => (mg_tup B3.toCt.fit B3.toCt.calm (mgs_cons (k_gN B3.toCt rfl (by decide +kernel) rfl (.inr (by decide +kernel))) (mgs_cons (k_gN B3.toCt rfl (by decide +kernel) rfl (.inr (by decide +kernel))) mgs_nil)))) (fun A3 X3 B3 => (mts_one (mt_cmp B3.toCt.fit c_in (k_var B3.toCt (i := 9) rfl (by decide +kernel)) (k_var B3.toCt (i := 17) rfl (by decide +kernel)) (by rfl)))) (fun A3 X3 B3 => (k_var B3.toCt (i := 16) rfl (by decide +kernel))))) me_int))))))) (fun E h => by cases E; subst h; rfl)) (mss_cons (ms_if (mt_w (mw_or (mt_cmp B.fit (c_ne B.u64) (me_lF false (q_comp B [("i", 10)] (mi_rg1 B.fit (B.b_range hb) (k_var B (i := 2) rfl (by decide +kernel))) ⟨rfl, by decide +kernel, by decide +kernel, by decide +kernel, by decide +kernel⟩ (fun A1 X1 B1 => (k_gN B1.toCt rfl (by decide +kernel) rfl (.inr (by decide +kernel)))) (fun A1 X1 B1 => mts_nil) (fun A1 X1 B1 => (k_call B1.toCt r_faces (by decide) (by decide +kernel) (ma_cons (k_var B1.toCt (i := 4) rfl (by decide +kernel)) (ma_cons (k_var B1.toCt (i := 10) rfl (by decide +kernel)) ma_nil)))))) (k_var B (i := 6) rfl (by decide +kernel)) (by rfl)) (mw_or1 (mt_not (mt_val (k_call B r__law_same (by decide) (by decide +kernel) (ma_cons (k_call B r_face_row (by decide) (by decide +kernel) (ma_cons (k_var B (i := 4) rfl (by decide +kernel)) ma_nil)) (ma_cons (me_tupOf B.fit (B.b_tuple hb) (me_lF false (q_comp B [("lot", 15)] (mi_of B.fit (k_var B (i := 6) rfl (by decide +kernel))) ⟨rfl, by decide +kernel, by decide +kernel, by decide +kernel, by decide +kernel⟩ (fun A1 X1 B1 => (k_gN B1.toCt rfl (by decide +kernel) rfl (.inr (by decide +kernel)))) (fun A1 X1 B1 => mts_nil) (fun A1 X1 B1 => (me_len B1.toCt.fit (B1.toCt.b_len hb) (k_var B1.toCt (i := 15) rfl (by decide +kernel))))))) ma_nil)))))))) (mss_one (ms_ret me_bl)) mss_nil) (mss_cons (ms_if (mt_not (mt_val (k_call B r__law_same (by decide) (by decide +kernel) (ma_cons (k_call B r_euler (by decide) (by decide +kernel) (ma_cons (k_var B (i := 4) rfl (by decide +kernel)) ma_nil)) (ma_cons (me_sum B.fit B.calm (B.b_sum hb) (me_lF false (q_comp B [("i", 10), ("lot", 15)] (mi_enL B.fit (B.b_enumerate hb) (k_var B (i := 6) rfl (by decide +kernel))) ⟨rfl, by decide +kernel, by decide +kernel, by decide +kernel, by decide +kernel⟩ (fun A1 X1 B1 => (mg_tup B1.toCt.fit B1.toCt.calm (mgs_cons (k_gN B1.toCt rfl (by decide +kernel) rfl (.inr (by decide +kernel))) (mgs_cons (k_gN B1.toCt rfl (by decide +kernel) rfl (.inr (by decide +kernel))) mgs_nil)))) (fun A1 X1 B1 => mts_nil) (fun A1 X1 B1 => (me_mul B1.toCt.fit (me_len B1.toCt.fit (B1.toCt.b_len hb) (k_var B1.toCt (i := 15) rfl (by decide +kernel))) (me_sub B1.toCt.fit me_int (me_mul B1.toCt.fit me_int (me_mod B1.toCt.fit (me_intOf B1.toCt.fit (B1.toCt.b_int hb) (k_var B1.toCt (i := 10) rfl (by decide +kernel))) me_int)))))))) ma_nil))))) (mss_one (ms_ret me_bl)) mss_nil) (mss_cons (q_set B rfl (by decide +kernel) (.inl (B0.fn _)) (me_lF false (q_comp B [("x", 9)] (mi_rg1 B.fit (B.b_range hb) (k_var B (i := 3) rfl (by decide +kernel))) ⟨rfl, by decide +kernel, by decide +kernel, by decide +kernel, by decide +kernel⟩ (fun A1 X1 B1 => (k_gN B1.toCt rfl (by decide +kernel) rfl (.inl ((B1.fn _).trans (by decide +kernel))))) (fun A1 X1 B1 => mts_nil) (fun A1 X1 B1 => (me_tupOf B1.toCt.fit (B1.toCt.b_tuple hb) (me_lF false (q_comp B1.toCt [("i", 10)] (mi_rg1 B1.toCt.fit (B1.toCt.b_range hb) (k_var B1.toCt (i := 2) rfl (by decide +kernel))) ⟨rfl, by decide +kernel, by decide +kernel, by decide +kernel, by decide +kernel⟩ (fun A2 X2 B2 => (k_gN B2.toCt rfl (by decide +kernel) rfl (.inr (by decide +kernel)))) (fun A2 X2 B2 => mts_nil) (fun A2 X2 B2 => (me_idx B2.toCt.fit (me_idx B2.toCt.fit (k_var B2.toCt (i := 7) rfl (by decide +kernel)) (k_var B2.toCt (i := 10) rfl (by decide +kernel))) (k_var B2.toCt (i := 9) rfl (by decide +kernel)))))))))) (fun E h => by cases E; subst h; rfl)) (mss_cons (k_set B rfl (by decide +kernel) (.inl (B0.fn _)) (k_call B r__law_take (by decide) (by decide +kernel) (ma_cons (k_var B (i := 0) rfl (by decide +kernel)) (ma_cons (k_var B (i := 3) rfl (by decide +kernel)) ma_nil)))) (mss_cons (ms_if (mt_w (mw_or (mt_not (mt_val (k_call B r__law_same (by decide) (by decide +kernel) (ma_cons (k_call B r_marks (by decide) (by decide +kernel) (ma_cons (k_var B (i := 4) rfl (by decide +kernel)) (ma_cons (k_var B (i := 9) rfl (by decide +kernel)) ma_nil))) (ma_cons (me_idx B.fit (k_var B (i := 8) rfl (by decide +kernel)) (k_var B (i := 9) rfl (by decide +kernel))) ma_nil))))) (mw_or (mt_not (mt_val (me_all B.fit B.calm (B.b_all hb) (me_lF false (q_comp B [("i", 10)] (mi_rg1 B.fit (B.b_range hb) (k_var B (i := 2) rfl (by decide +kernel))) ⟨rfl, by decide +kernel, by decide +kernel, by decide +kernel, by decide +kernel⟩ (fun A1 X1 B1 => (k_gN B1.toCt rfl (by decide +kernel) rfl (.inr (by decide +kernel)))) (fun A1 X1 B1 => mts_nil) (fun A1 X1 B1 => (k_call B1.toCt r__law_same (by decide) (by decide +kernel) (ma_cons (k_call B1.toCt r_face_of (by decide) (by decide +kernel) (ma_cons (k_var B1.toCt (i := 4) rfl (by decide +kernel)) (ma_cons (k_var B1.toCt (i := 10) rfl (by decide +kernel)) (ma_cons (k_var B1.toCt (i := 9) rfl (by decide +kernel)) ma_nil)))) (ma_cons (me_idx B1.toCt.fit (me_idx B1.toCt.fit (k_var B1.toCt (i := 8) rfl (by decide +kernel)) (k_var B1.toCt (i := 9) rfl (by decide +kernel))) (k_var B1.toCt (i := 10) rfl (by decide +kernel))) ma_nil))))))))) (mw_or1 (mt_not (mt_val (k_call B r__law_says (by decide) (by decide +kernel) (ma_cons (k_call B r_are_told (by decide) (by decide +kernel) (ma_cons (k_var B (i := 4) rfl (by decide +kernel)) ma_nil)) (ma_cons (me_cmp B.fit (c_eq B.u64) (me_lenSet B.fit B.calm B.u200 (B.b_len hb) (B.b_set hb) (k_var B (i := 8) rfl (by decide +kernel))) (k_var B (i := 3) rfl (by decide +kernel)) (by rfl)) ma_nil))))))))) (mss_one (ms_ret me_bl)) mss_nil) (mss_cons (ms_if (mt_cmp B.fit c_lt (k_var B (i := 2) rfl (by decide +kernel)) me_int (by rfl)) (mss_one (ms_ret me_bl)) mss_nil) (mss_cons (k_set B rfl (by decide +kernel) (.inl (B0.fn _)) (k_call B r__law_take (by decide) (by decide +kernel) (ma_cons (k_var B (i := 0) rfl (by decide +kernel)) (ma_cons (me_sub B.fit (k_var B (i := 2) rfl (by decide +kernel)) me_int) ma_nil)))) (mss_cons (k_set B rfl (by decide +kernel) (.inl (B0.fn _)) (me_add B.fit (me_add B.fit (k_var B (i := 10) rfl (by decide +kernel)) me_int) (k_call B r__law_take (by decide) (by decide +kernel) (ma_cons (k_var B (i := 0) rfl (by decide +kernel)) (ma_cons (me_sub B.fit (me_sub B.fit (k_var B (i := 2) rfl (by decide +kernel)) me_int) (k_var B (i := 10) rfl (by decide +kernel))) ma_nil))))) (mss_cons (k_asg (vs := [12, 13]) B (me_tup (ma_cons (k_call B r__law_take (by decide) (by decide +kernel) (ma_cons (k_var B (i := 0) rfl (by decide +kernel)) (ma_cons (me_len B.fit (B.b_len hb) (me_idx B.fit (k_var B (i := 6) rfl (by decide +kernel)) (k_var B (i := 10) rfl (by decide +kernel)))) ma_nil))) (ma_cons (k_call B r__law_take (by decide) (by decide +kernel) (ma_cons (k_var B (i := 0) rfl (by decide +kernel)) (ma_cons (me_len B.fit (B.b_len hb) (me_idx B.fit (k_var B (i := 6) rfl (by decide +kernel)) (k_var B (i := 11) rfl (by decide +kernel)))) ma_nil))) ma_nil))) (mg_tup B.fit B.calm (mgs_cons (k_gN B rfl (by decide +kernel) rfl (.inl (B0.fn _))) (mgs_cons (k_gN B rfl (by decide +kernel) rfl (.inl (B0.fn _))) mgs_nil))) (fun E h => by cases E; subst h; rfl)) (mss_cons (k_set B rfl (by decide +kernel) (.inr (by decide +kernel)) (me_any B.fit B.calm (B.b_any hb) (me_lF false (q_comp B [("row", 18)] (mi_of B.fit (k_var B (i := 8) rfl (by decide +kernel))) ⟨rfl, by decide +kernel, by decide +kernel, by decide +kernel, by decide +kernel⟩ (fun A1 X1 B1 => (k_gN B1.toCt rfl (by decide +kernel) rfl (.inr (by decide +kernel)))) (fun A1 X1 B1 => mts_nil) (fun A1 X1 B1 => (me_and (me_cmp B1.toCt.fit (c_eq B1.toCt.u64) (me_idx B1.toCt.fit (k_var B1.toCt (i := 18) rfl (by decide +kernel)) (k_var B1.toCt (i := 10) rfl (by decide +kernel))) (k_var B1.toCt (i := 12) rfl (by decide +kernel)) (by rfl)) (me_one (me_cmp B1.toCt.fit (c_eq B1.toCt.u64) (me_idx B1.toCt.fit (k_var B1.toCt (i := 18) rfl (by decide +kernel)) (k_var B1.toCt (i := 11) rfl (by decide +kernel))) (k_var B1.toCt (i := 13) rfl (by decide +kernel)) (by rfl))))))))) (mss_cons (ms_if (mt_w (mw_or (mt_not (mt_val (k_call B r__law_says (by decide) (by decide +kernel) (ma_cons (k_call B r_is_on (by decide) (by decide +kernel) (ma_cons (k_var B (i := 4) rfl (by decide +kernel)) (ma_cons (k_var B (i := 10) rfl (by decide +kernel)) (ma_cons (k_var B (i := 12) rfl (by decide +kernel)) (ma_cons (k_var B (i := 11) rfl (by decide +kernel)) (ma_cons (k_var B (i := 13) rfl (by decide +kernel)) ma_nil)))))) (ma_cons (k_var B (i := 14) rfl (by decide +kernel)) ma_nil))))) (mw_or1 (mt_not (mt_val (k_call B r__law_says (by decide) (by decide +kernel) (ma_cons (k_call B r_is_on (by decide) (by decide +kernel) (ma_cons (k_var B (i := 4) rfl (by decide +kernel)) (ma_cons (k_var B (i := 11) rfl (by decide +kernel)) (ma_cons (k_var B (i := 13) rfl (by decide +kernel)) (ma_cons (k_var B (i := 10) rfl (by decide +kernel)) (ma_cons (k_var B (i := 12) rfl (by decide +kernel)) ma_nil)))))) (ma_cons (k_var B (i := 14) rfl (by decide +kernel)) ma_nil)))))))) (mss_one (ms_ret me_bl)) mss_nil) (mss_one (ms_ret (k_call B r__law_says (by decide) (by decide +kernel) (ma_cons (k_call B r_is_flat (by decide) (by decide +kernel) (ma_cons (k_var B (i := 4) rfl (by decide +kernel)) (ma_cons (k_var B (i := 10) rfl (by decide +kernel)) (ma_cons (k_var B (i := 11) rfl (by decide +kernel)) ma_nil)))) (ma_cons (me_cmp B.fit (c_eq B.u64) (me_lenSet B.fit B.calm B.u200 (B.b_len hb) (B.b_set hb) (me_lF false (q_comp B [("row", 18)] (mi_of B.fit (k_var B (i := 8) rfl (by decide +kernel))) ⟨rfl, by decide +kernel, by decide +kernel, by decide +kernel, by decide +kernel⟩ (fun A1 X1 B1 => (k_gN B1.toCt rfl (by decide +kernel) rfl (.inr (by decide +kernel)))) (fun A1 X1 B1 => mts_nil) (fun A1 X1 B1 => (me_tup (ma_cons (me_idx B1.toCt.fit (k_var B1.toCt (i := 18) rfl (by decide +kernel)) (k_var B1.toCt (i := 10) rfl (by decide +kernel))) (ma_cons (me_idx B1.toCt.fit (k_var B1.toCt (i := 18) rfl (by decide +kernel)) (k_var B1.toCt (i := 11) rfl (by decide +kernel))) ma_nil))))))) (me_mul B.fit (me_len B.fit (B.b_len hb) (me_idx B.fit (k_var B (i := 6) rfl (by decide +kernel)) (k_var B (i := 10) rfl (by decide +kernel)))) (me_len B.fit (B.b_len hb) (me_idx B.fit (k_var B (i := 6) rfl (by decide +kernel)) (k_var B (i := 11) rfl (by decide +kernel))))) (by rfl)) ma_nil))))))))))))))))))))))
def N_law : List Str := ["script", "state", "t", "n", "net", "tried", "more", "i", "given"]
def b_law : TSm := (sSeq (sAsg (mCall sp__law_state [] (aCons (mVar 0) aNil)) (gN 1)) (sSeq (sFor (iRg1 (mCon (.int 5))) (gN 2) (sIf (bNot (mT (mCall sp__law_net_holds [] (aCons (mVar 1) aNil)))) (sRet (mCon (.bl false))) sNil)) (sSeq (sFor (iOf (mTup (aCons (mCon (.int 1)) (aCons (mCon (.int 2)) (aCons (mCon (.int 3)) aNil))))) (gN 3) (sIf (bNot (mT (mCall (sp__law_same 4) [] (aCons (mCall sp_face_row [] (aCons (mMake "Net" sp_Net_init [] (aCons (mCall sp__law_simplex [] (aCons (mVar 3) aNil)) aNil)) aNil)) (aCons (m1 fTup (lF false (lComp [7] (iRg1 (mVar 3)) (gN 7) bYes (mCall sp__law_choose [] (aCons (m2 fAdd (mVar 3) (mCon (.int 1))) (aCons (m2 fAdd (mVar 7) (mCon (.int 1))) aNil)))))) aNil))))) (sRet (mCon (.bl false))) sNil)) (sSeq (sAsg (mMake "Net" sp_Net_init [] (aCons (mCall sp__law_simplex [] (aCons (mCon (.int 3)) aNil)) aNil)) (gN 4)) (sSeq (sIf (bOr (mT (m2 fNe (mCall sp_euler [] (aCons (mVar 4) aNil)) (mCon (.int 2)))) (bOr (mT (m2 (fIs true) (mCall sp_is_flat [] (aCons (mVar 4) (aCons (mCon (.int 0)) (aCons (mCon (.int 2)) aNil)))) (mCon (.bl false)))) (mT (m2 (fIs true) (mCall sp_are_told [] (aCons (mVar 4) aNil)) (mCon (.bl true)))))) (sRet (mCon (.bl false))) sNil) (sSeq (sAsg (lF false (lDisp (aCons (mTup (aCons (mCon (.gl "faces")) (aCons (mTup (aCons (mVar 4) (aCons (mCon (.int 3)) aNil))) aNil))) (aCons (mTup (aCons (mCon (.gl "faces")) (aCons (mTup (aCons (mVar 4) (aCons (m1 fNeg (mCon (.int 1))) aNil))) aNil))) (aCons (mTup (aCons (mCon (.gl "faces")) (aCons (mTup (aCons (mCon .non) (aCons (mCon (.int 0)) aNil))) aNil))) (aCons (mTup (aCons (mCon (.gl "faces")) (aCons (mTup (aCons (mVar 4) (aCons (mCon (.bl true)) aNil))) aNil))) (aCons (mTup (aCons (mCon (.gl "face_of")) (aCons (mTup (aCons (mVar 4) (aCons (mCon (.int 0)) (aCons (mCon (.int 24)) aNil)))) aNil))) aNil))))))) (gN 5)) (sSeq (sAsg (lF false (l2 fCatL (mVar 5) (lF false (lDisp (aCons (mTup (aCons (mCon (.gl "face_of")) (aCons (mTup (aCons (mVar 4) (aCons (mCon (.int 3)) (aCons (mCon (.int 0)) aNil)))) aNil))) (aCons (mTup (aCons (mCon (.gl "marks")) (aCons (mTup (aCons (mVar 4) (aCons (m1 fNeg (mCon (.int 1))) aNil))) aNil))) (aCons (mTup (aCons (mCon (.gl "components")) (aCons (mTup (aCons (mVar 4) (aCons (mTup (aCons (mCon (.int 1)) (aCons (mCon (.int 0)) aNil))) aNil))) aNil))) (aCons (mTup (aCons (mCon (.gl "components")) (aCons (mTup (aCons (mVar 4) (aCons (mTup (aCons (mCon (.int 0)) (aCons (mCon (.int 0)) aNil))) aNil))) aNil))) (aCons (mTup (aCons (mCon (.gl "components")) (aCons (mTup (aCons (mVar 4) (aCons (lF false (lDisp (aCons (mCon (.int 0)) aNil))) aNil))) aNil))) aNil))))))))) (gN 5)) (sSeq (sAsg (lF false (l2 fCatL (mVar 5) (lF false (lDisp (aCons (mTup (aCons (mCon (.gl "components")) (aCons (mTup (aCons (mVar 4) (aCons (mTup (aCons (mCon (.int 3)) aNil)) aNil))) aNil))) (aCons (mTup (aCons (mCon (.gl "components")) (aCons (mTup (aCons (mCon .non) (aCons (mTup aNil) aNil))) aNil))) (aCons (mTup (aCons (mCon (.gl "face_row")) (aCons (mTup (aCons (mCon .non) aNil)) aNil))) (aCons (mTup (aCons (mCon (.gl "are_told")) (aCons (mTup (aCons (mCon (.int 5)) aNil)) aNil))) aNil)))))))) (gN 5)) (sSeq (sAsg (lF false (l2 fCatL (mVar 5) (lF false (lDisp (aCons (mTup (aCons (mCon (.gl "euler")) (aCons (mTup (aCons (mTup (aCons (mTup (aCons (mCon (.int 1)) (aCons (mCon (.int 0)) aNil))) aNil)) aNil)) aNil))) (aCons (mTup (aCons (mCon (.gl "is_flat")) (aCons (mTup (aCons (mVar 4) (aCons (mCon (.int 1)) (aCons (mCon (.int 1)) aNil)))) aNil))) (aCons (mTup (aCons (mCon (.gl "is_flat")) (aCons (mTup (aCons (mVar 4) (aCons (mCon (.int 2)) (aCons (mCon (.int 1)) aNil)))) aNil))) (aCons (mTup (aCons (mCon (.gl "is_flat")) (aCons (mTup (aCons (mVar 4) (aCons (mCon (.int 0)) (aCons (mCon (.int 3)) aNil)))) aNil))) aNil)))))))) (gN 5)) (sSeq (sAsg (lF false (lDisp (aCons (mTup (aCons (mVar 4) (aCons (mCon (.int 0)) (aCons (mCon (.int 0)) (aCons (mCon (.int 0)) (aCons (mCon (.int 1)) aNil)))))) (aCons (mTup (aCons (mVar 4) (aCons (mCon (.int 0)) (aCons (mCon (.int 4)) (aCons (mCon (.int 1)) (aCons (mCon (.int 0)) aNil)))))) (aCons (mTup (aCons (mVar 4) (aCons (mCon (.int 0)) (aCons (mCon (.int 0)) (aCons (mCon (.int 2)) (aCons (mCon (.int 4)) aNil)))))) (aCons (mTup (aCons (mVar 4) (aCons (mCon (.int 3)) (aCons (mCon (.int 0)) (aCons (mCon (.int 1)) (aCons (mCon (.int 0)) aNil)))))) (aCons (mTup (aCons (mCon .non) (aCons (mCon (.int 0)) (aCons (mCon (.int 0)) (aCons (mCon (.int 1)) (aCons (mCon (.int 0)) aNil)))))) aNil))))))) (gN 6)) (sRet (mCall sp__law_all_malformed [] (aCons (lF false (l2 fCatL (mVar 5) (lF false (lComp [8] (iOf (mVar 6)) (gN 8) bYes (mTup (aCons (mCon (.gl "is_on")) (aCons (mVar 8) aNil))))))) aNil)))))))))))))
def sp_law : FSp := fSp b_law 9 1
theorem d_law {G : Gd} (hb : Bs G) (HC : ClsT G) (HT : IsT G) (HX : ExT G) (r__law_all_malformed : FnR G 9 "_law_all_malformed" sp__law_all_malformed []) (r__law_choose : FnR G 1 "_law_choose" sp__law_choose []) (r__law_net_holds : FnR G 8 "_law_net_holds" sp__law_net_holds []) (r__law_same : FnR G 6 "_law_same" (sp__law_same 4) []) (r__law_simplex : FnR G 1 "_law_simplex" sp__law_simplex []) (r__law_state : FnR G 1 "_law_state" sp__law_state []) (r_are_told : FnR G 7 "are_told" sp_are_told []) (r_euler : FnR G 6 "euler" sp_euler []) (r_face_row : FnR G 5 "face_row" sp_face_row []) (r_is_flat : FnR G 6 "is_flat" sp_is_flat []) (r_Net : MkR G 5 "Net" sp_Net_init []) (r_components : FnR G 5 "components" sp_components []) (r_face_of : FnR G 6 "face_of" sp_face_of []) (r_faces : FnR G 4 "faces" sp_faces []) (r_is_on : FnR G 5 "is_on" sp_is_on []) (r_marks : FnR G 7 "marks" sp_marks []) : ∀ A X, Bd 9 N_law (defScope (top 54)) G.P G.w G.K G.mg G.base A X → MSs A X (defBody (top 54)) b_law := by
  intro A X B0
  have B := B0.ct (by decide +kernel)
  exact (mss_cons (k_set B rfl (by decide +kernel) (.inr (by decide +kernel)) (k_call B r__law_state (by decide) (by decide +kernel) (ma_cons (k_var B (i := 0) rfl (by decide +kernel)) ma_nil))) (mss_cons (ms_for (vs := [2]) B0.po B.calm (mi_rg1 B.fit (B.b_range hb) me_int) (k_gN B rfl (by decide +kernel) rfl (.inr (by decide +kernel))) (mss_one (ms_if (mt_not (mt_val (k_call B r__law_net_holds (by decide) (by decide +kernel) (ma_cons (k_var B (i := 1) rfl (by decide +kernel)) ma_nil)))) (mss_one (ms_ret me_bl)) mss_nil))) (mss_cons (ms_for (vs := [3]) B0.po B.calm (mi_of B.fit (me_tup (ma_cons me_int (ma_cons me_int (ma_cons me_int ma_nil))))) (k_gN B rfl (by decide +kernel) rfl (.inl (B0.fn _))) (mss_one (ms_if (mt_not (mt_val (k_call B r__law_same (by decide) (by decide +kernel) (ma_cons (k_call B r_face_row (by decide) (by decide +kernel) (ma_cons (k_make B r_Net (by decide) (by decide +kernel) (ma_cons (k_call B r__law_simplex (by decide) (by decide +kernel) (ma_cons (k_var B (i := 3) rfl (by decide +kernel)) ma_nil)) ma_nil)) ma_nil)) (ma_cons (me_tupOf B.fit (B.b_tuple hb) (me_lF false (q_comp B [("i", 7)] (mi_rg1 B.fit (B.b_range hb) (k_var B (i := 3) rfl (by decide +kernel))) ⟨rfl, by decide +kernel, by decide +kernel, by decide +kernel, by decide +kernel⟩ (fun A1 X1 B1 => (k_gN B1.toCt rfl (by decide +kernel) rfl (.inr (by decide +kernel)))) (fun A1 X1 B1 => mts_nil) (fun A1 X1 B1 => (k_call B1.toCt r__law_choose (by decide) (by decide +kernel) (ma_cons (me_add B1.toCt.fit (k_var B1.toCt (i := 3) rfl (by decide +kernel)) me_int) (ma_cons (me_add B1.toCt.fit (k_var B1.toCt (i := 7) rfl (by decide +kernel)) me_int) ma_nil))))))) ma_nil))))) (mss_one (ms_ret me_bl)) mss_nil))) (mss_cons (k_set B rfl (by decide +kernel) (.inr (by decide +kernel)) (k_make B r_Net (by decide) (by decide +kernel) (ma_cons (k_call B r__law_simplex (by decide) (by decide +kernel) (ma_cons me_int ma_nil)) ma_nil))) (mss_cons (ms_if (mt_w (mw_or (mt_cmp B.fit (c_ne B.u64) (k_call B r_euler (by decide) (by decide +kernel) (ma_cons (k_var B (i := 4) rfl (by decide +kernel)) ma_nil)) me_int (by rfl)) (mw_or (mt_cmp B.fit c_isn (k_call B r_is_flat (by decide) (by decide +kernel) (ma_cons (k_var B (i := 4) rfl (by decide +kernel)) (ma_cons me_int (ma_cons me_int ma_nil)))) me_bl (by rfl)) (mw_or1 (mt_cmp B.fit c_isn (k_call B r_are_told (by decide) (by decide +kernel) (ma_cons (k_var B (i := 4) rfl (by decide +kernel)) ma_nil)) me_bl (by rfl)))))) (mss_one (ms_ret me_bl)) mss_nil) (mss_cons (k_set B rfl (by decide +kernel) (.inr (by decide +kernel)) (me_lF false (ml_disp (ma_cons (me_tup (ma_cons (k_gl B r_faces.gl (by decide +kernel)) (ma_cons (me_tup (ma_cons (k_var B (i := 4) rfl (by decide +kernel)) (ma_cons me_int ma_nil))) ma_nil))) (ma_cons (me_tup (ma_cons (k_gl B r_faces.gl (by decide +kernel)) (ma_cons (me_tup (ma_cons (k_var B (i := 4) rfl (by decide +kernel)) (ma_cons (me_neg B.fit me_int) ma_nil))) ma_nil))) (ma_cons (me_tup (ma_cons (k_gl B r_faces.gl (by decide +kernel)) (ma_cons (me_tup (ma_cons me_non (ma_cons me_int ma_nil))) ma_nil))) (ma_cons (me_tup (ma_cons (k_gl B r_faces.gl (by decide +kernel)) (ma_cons (me_tup (ma_cons (k_var B (i := 4) rfl (by decide +kernel)) (ma_cons me_bl ma_nil))) ma_nil))) (ma_cons (me_tup (ma_cons (k_gl B r_face_of.gl (by decide +kernel)) (ma_cons (me_tup (ma_cons (k_var B (i := 4) rfl (by decide +kernel)) (ma_cons me_int (ma_cons me_int ma_nil)))) ma_nil))) ma_nil)))))))) (mss_cons (k_set B rfl (by decide +kernel) (.inr (by decide +kernel)) (me_lF false (ml_cat B.fit (k_var B (i := 5) rfl (by decide +kernel)) (me_lF false (ml_disp (ma_cons (me_tup (ma_cons (k_gl B r_face_of.gl (by decide +kernel)) (ma_cons (me_tup (ma_cons (k_var B (i := 4) rfl (by decide +kernel)) (ma_cons me_int (ma_cons me_int ma_nil)))) ma_nil))) (ma_cons (me_tup (ma_cons (k_gl B r_marks.gl (by decide +kernel)) (ma_cons (me_tup (ma_cons (k_var B (i := 4) rfl (by decide +kernel)) (ma_cons (me_neg B.fit me_int) ma_nil))) ma_nil))) (ma_cons (me_tup (ma_cons (k_gl B r_components.gl (by decide +kernel)) (ma_cons (me_tup (ma_cons (k_var B (i := 4) rfl (by decide +kernel)) (ma_cons (me_tup (ma_cons me_int (ma_cons me_int ma_nil))) ma_nil))) ma_nil))) (ma_cons (me_tup (ma_cons (k_gl B r_components.gl (by decide +kernel)) (ma_cons (me_tup (ma_cons (k_var B (i := 4) rfl (by decide +kernel)) (ma_cons (me_tup (ma_cons me_int (ma_cons me_int ma_nil))) ma_nil))) ma_nil))) (ma_cons (me_tup (ma_cons (k_gl B r_components.gl (by decide +kernel)) (ma_cons (me_tup (ma_cons (k_var B (i := 4) rfl (by decide +kernel)) (ma_cons (me_lF false (ml_disp (ma_cons me_int ma_nil))) ma_nil))) ma_nil))) ma_nil)))))))))) (mss_cons (k_set B rfl (by decide +kernel) (.inr (by decide +kernel)) (me_lF false (ml_cat B.fit (k_var B (i := 5) rfl (by decide +kernel)) (me_lF false (ml_disp (ma_cons (me_tup (ma_cons (k_gl B r_components.gl (by decide +kernel)) (ma_cons (me_tup (ma_cons (k_var B (i := 4) rfl (by decide +kernel)) (ma_cons (me_tup (ma_cons me_int ma_nil)) ma_nil))) ma_nil))) (ma_cons (me_tup (ma_cons (k_gl B r_components.gl (by decide +kernel)) (ma_cons (me_tup (ma_cons me_non (ma_cons (me_tup ma_nil) ma_nil))) ma_nil))) (ma_cons (me_tup (ma_cons (k_gl B r_face_row.gl (by decide +kernel)) (ma_cons (me_tup (ma_cons me_non ma_nil)) ma_nil))) (ma_cons (me_tup (ma_cons (k_gl B r_are_told.gl (by decide +kernel)) (ma_cons (me_tup (ma_cons me_int ma_nil)) ma_nil))) ma_nil))))))))) (mss_cons (k_set B rfl (by decide +kernel) (.inr (by decide +kernel)) (me_lF false (ml_cat B.fit (k_var B (i := 5) rfl (by decide +kernel)) (me_lF false (ml_disp (ma_cons (me_tup (ma_cons (k_gl B r_euler.gl (by decide +kernel)) (ma_cons (me_tup (ma_cons (me_tup (ma_cons (me_tup (ma_cons me_int (ma_cons me_int ma_nil))) ma_nil)) ma_nil)) ma_nil))) (ma_cons (me_tup (ma_cons (k_gl B r_is_flat.gl (by decide +kernel)) (ma_cons (me_tup (ma_cons (k_var B (i := 4) rfl (by decide +kernel)) (ma_cons me_int (ma_cons me_int ma_nil)))) ma_nil))) (ma_cons (me_tup (ma_cons (k_gl B r_is_flat.gl (by decide +kernel)) (ma_cons (me_tup (ma_cons (k_var B (i := 4) rfl (by decide +kernel)) (ma_cons me_int (ma_cons me_int ma_nil)))) ma_nil))) (ma_cons (me_tup (ma_cons (k_gl B r_is_flat.gl (by decide +kernel)) (ma_cons (me_tup (ma_cons (k_var B (i := 4) rfl (by decide +kernel)) (ma_cons me_int (ma_cons me_int ma_nil)))) ma_nil))) ma_nil))))))))) (mss_cons (k_set B rfl (by decide +kernel) (.inr (by decide +kernel)) (me_lF false (ml_disp (ma_cons (me_tup (ma_cons (k_var B (i := 4) rfl (by decide +kernel)) (ma_cons me_int (ma_cons me_int (ma_cons me_int (ma_cons me_int ma_nil)))))) (ma_cons (me_tup (ma_cons (k_var B (i := 4) rfl (by decide +kernel)) (ma_cons me_int (ma_cons me_int (ma_cons me_int (ma_cons me_int ma_nil)))))) (ma_cons (me_tup (ma_cons (k_var B (i := 4) rfl (by decide +kernel)) (ma_cons me_int (ma_cons me_int (ma_cons me_int (ma_cons me_int ma_nil)))))) (ma_cons (me_tup (ma_cons (k_var B (i := 4) rfl (by decide +kernel)) (ma_cons me_int (ma_cons me_int (ma_cons me_int (ma_cons me_int ma_nil)))))) (ma_cons (me_tup (ma_cons me_non (ma_cons me_int (ma_cons me_int (ma_cons me_int (ma_cons me_int ma_nil)))))) ma_nil)))))))) (mss_one (ms_ret (k_call B r__law_all_malformed (by decide) (by decide +kernel) (ma_cons (me_lF false (ml_cat B.fit (k_var B (i := 5) rfl (by decide +kernel)) (me_lF false (q_comp B [("given", 8)] (mi_of B.fit (k_var B (i := 6) rfl (by decide +kernel))) ⟨rfl, by decide +kernel, by decide +kernel, by decide +kernel, by decide +kernel⟩ (fun A1 X1 B1 => (k_gN B1.toCt rfl (by decide +kernel) rfl (.inr (by decide +kernel)))) (fun A1 X1 B1 => mts_nil) (fun A1 X1 B1 => (me_tup (ma_cons (k_gl B1.toCt r_is_on.gl (by decide +kernel)) (ma_cons (k_var B1.toCt (i := 8) rfl (by decide +kernel)) ma_nil)))))))) ma_nil))))))))))))))
end K03
end
section
set_option maxHeartbeats 0
namespace K03
open PySem (Str Addr Value Expr Stmt Pos PyData)
open L2 (defBody defScope defArgs)
open Mi
def dx_Malformed : He.DefD := ⟨("Malformed", some (PySem.Str.ofString "__init__")), "__init__", "Malformed.__init__", defArgs (mth (top 2) 0), defBody (mth (top 2) 0), defScope (mth (top 2) 0), [], []⟩
def dd_is_integer : He.DefD := ⟨("is_integer", none), "is_integer", "is_integer", defArgs (top 6), defBody (top 6), defScope (top 6), [], []⟩
def dd_is_count : He.DefD := ⟨("is_count", none), "is_count", "is_count", defArgs (top 7), defBody (top 7), defScope (top 7), [], []⟩
def dd_is_rising : He.DefD := ⟨("is_rising", none), "is_rising", "is_rising", defArgs (top 8), defBody (top 8), defScope (top 8), [], []⟩
def dd_check_count : He.DefD := ⟨("check_count", none), "check_count", "check_count", defArgs (top 9), defBody (top 9), defScope (top 9), [], []⟩
def dd_is_order : He.DefD := ⟨("is_order", none), "is_order", "is_order", defArgs (top 12), defBody (top 12), defScope (top 12), [], []⟩
def dd_then : He.DefD := ⟨("then", none), "then", "then", defArgs (top 13), defBody (top 13), defScope (top 13), [], []⟩
def dd_joined_lots : He.DefD := ⟨("joined_lots", none), "joined_lots", "joined_lots", defArgs (top 14), defBody (top 14), defScope (top 14), [], []⟩
def dd_go_together : He.DefD := ⟨("go_together", none), "go_together", "go_together", defArgs (top 17), defBody (top 17), defScope (top 17), [], []⟩
def dd_are_flips : He.DefD := ⟨("are_flips", none), "are_flips", "are_flips", defArgs (top 18), defBody (top 18), defScope (top 18), [], []⟩
def dd_Net_init : He.DefD := ⟨("Net", some (PySem.Str.ofString "__init__")), "__init__", "Net.__init__", defArgs (mth (top 19) 0), defBody (mth (top 19) 0), defScope (mth (top 19) 0), [], []⟩
def dd_check_net : He.DefD := ⟨("check_net", none), "check_net", "check_net", defArgs (top 20), defBody (top 20), defScope (top 20), [], []⟩
def dd_check_flag : He.DefD := ⟨("check_flag", none), "check_flag", "check_flag", defArgs (top 21), defBody (top 21), defScope (top 21), [], []⟩
def dd_check_kept : He.DefD := ⟨("check_kept", none), "check_kept", "check_kept", defArgs (top 23), defBody (top 23), defScope (top 23), [], []⟩
def dd_plain_components : He.DefD := ⟨("plain_components", none), "plain_components", "plain_components", defArgs (top 24), defBody (top 24), defScope (top 24), [], []⟩
def dd_components : He.DefD := ⟨("components", none), "components", "components", defArgs (top 25), defBody (top 25), defScope (top 25), [], []⟩
def dd_places_in : He.DefD := ⟨("places_in", none), "places_in", "places_in", defArgs (top 26), defBody (top 26), defScope (top 26), [], []⟩
def dd_faces : He.DefD := ⟨("faces", none), "faces", "faces", defArgs (top 27), defBody (top 27), defScope (top 27), [], []⟩
def dd_face_places : He.DefD := ⟨("face_places", none), "face_places", "face_places", defArgs (top 28), defBody (top 28), defScope (top 28), [], []⟩
def dd_face_of : He.DefD := ⟨("face_of", none), "face_of", "face_of", defArgs (top 29), defBody (top 29), defScope (top 29), [], []⟩
def dd_face_row : He.DefD := ⟨("face_row", none), "face_row", "face_row", defArgs (top 30), defBody (top 30), defScope (top 30), [], []⟩
def dd_mark_rows : He.DefD := ⟨("mark_rows", none), "mark_rows", "mark_rows", defArgs (top 31), defBody (top 31), defScope (top 31), [], []⟩
def dd_marks : He.DefD := ⟨("marks", none), "marks", "marks", defArgs (top 32), defBody (top 32), defScope (top 32), [], []⟩
def dd_are_told : He.DefD := ⟨("are_told", none), "are_told", "are_told", defArgs (top 33), defBody (top 33), defScope (top 33), [], []⟩
def dd_is_on : He.DefD := ⟨("is_on", none), "is_on", "is_on", defArgs (top 34), defBody (top 34), defScope (top 34), [], []⟩
def dd_euler : He.DefD := ⟨("euler", none), "euler", "euler", defArgs (top 35), defBody (top 35), defScope (top 35), [], []⟩
def dd_is_flat : He.DefD := ⟨("is_flat", none), "is_flat", "is_flat", defArgs (top 36), defBody (top 36), defScope (top 36), [], []⟩
def dd__law_state : He.DefD := ⟨("_law_state", none), "_law_state", "_law_state", defArgs (top 38), defBody (top 38), defScope (top 38), [], []⟩
def dd__law_take : He.DefD := ⟨("_law_take", none), "_law_take", "_law_take", defArgs (top 39), defBody (top 39), defScope (top 39), [], []⟩
def dd__law_says : He.DefD := ⟨("_law_says", none), "_law_says", "_law_says", defArgs (top 40), defBody (top 40), defScope (top 40), [], []⟩
def dd__law_is_whole : He.DefD := ⟨("_law_is_whole", none), "_law_is_whole", "_law_is_whole", defArgs (top 41), defBody (top 41), defScope (top 41), [], []⟩
def dd__law_same : He.DefD := ⟨("_law_same", none), "_law_same", "_law_same", defArgs (top 42), defBody (top 42), defScope (top 42), [], []⟩
def dd__law_told : He.DefD := ⟨("_law_told", none), "_law_told", "_law_told", defArgs (top 43), defBody (top 43), defScope (top 43), [], []⟩
def dd__law_all_malformed : He.DefD := ⟨("_law_all_malformed", none), "_law_all_malformed", "_law_all_malformed", defArgs (top 44), defBody (top 44), defScope (top 44), [], []⟩
def dd__law_pairing : He.DefD := ⟨("_law_pairing", none), "_law_pairing", "_law_pairing", defArgs (top 45), defBody (top 45), defScope (top 45), [], []⟩
def dd__law_line : He.DefD := ⟨("_law_line", none), "_law_line", "_law_line", defArgs (top 46), defBody (top 46), defScope (top 46), [], []⟩
def dd__law_form : He.DefD := ⟨("_law_form", none), "_law_form", "_law_form", defArgs (top 47), defBody (top 47), defScope (top 47), [], []⟩
def dd__law_map : He.DefD := ⟨("_law_map", none), "_law_map", "_law_map", defArgs (top 48), defBody (top 48), defScope (top 48), [], []⟩
def dd__law_simplex : He.DefD := ⟨("_law_simplex", none), "_law_simplex", "_law_simplex", defArgs (top 49), defBody (top 49), defScope (top 49), [], []⟩
def dd__law_flips : He.DefD := ⟨("_law_flips", none), "_law_flips", "_law_flips", defArgs (top 50), defBody (top 50), defScope (top 50), [], []⟩
def dd__law_lots : He.DefD := ⟨("_law_lots", none), "_law_lots", "_law_lots", defArgs (top 51), defBody (top 51), defScope (top 51), [], []⟩
def dd__law_choose : He.DefD := ⟨("_law_choose", none), "_law_choose", "_law_choose", defArgs (top 52), defBody (top 52), defScope (top 52), [], []⟩
def dd__law_net_holds : He.DefD := ⟨("_law_net_holds", none), "_law_net_holds", "_law_net_holds", defArgs (top 53), defBody (top 53), defScope (top 53), [], []⟩
def dd_law : He.DefD := ⟨("law", none), "law", "law", defArgs (top 54), defBody (top 54), defScope (top 54), [], []⟩
def fn0 : List He.DefD := [dx_Malformed, dd_is_integer, dd_is_count, dd_is_rising, dd_check_count, dd_is_order, dd_then, dd_joined_lots, dd_go_together, dd_are_flips, dd_Net_init, dd_check_net, dd_check_flag, dd_check_kept, dd_plain_components, dd_components, dd_places_in, dd_faces, dd_face_places, dd_face_of, dd_face_row, dd_mark_rows, dd_marks, dd_are_told, dd_is_on, dd_euler, dd_is_flat, dd__law_state, dd__law_take, dd__law_says]
def fn1 : List He.DefD := [dd__law_is_whole, dd__law_same, dd__law_told, dd__law_all_malformed, dd__law_pairing, dd__law_line, dd__law_form, dd__law_map, dd__law_simplex, dd__law_flips, dd__law_lots, dd__law_choose, dd__law_net_holds, dd_law]
def fn : List He.DefD := fn0 ++ (fn1)
def fa0 : List He.Fa := [.glo "is_integer", .glo "is_count", .glo "is_rising", .glo "check_count", .glo "is_order", .glo "then", .glo "joined_lots", .glo "go_together", .glo "are_flips", .glo "check_net", .glo "check_flag", .glo "check_kept", .glo "plain_components", .glo "components", .glo "places_in", .glo "faces", .glo "face_places", .glo "face_of", .glo "face_row", .glo "mark_rows", .glo "marks", .glo "are_told", .glo "is_on", .glo "euler", .glo "is_flat", .glo "_law_state", .glo "_law_take", .glo "_law_says", .glo "_law_is_whole", .glo "_law_same"]
def fa1 : List He.Fa := [.glo "_law_told", .glo "_law_all_malformed", .glo "_law_pairing", .glo "_law_line", .glo "_law_form", .glo "_law_map", .glo "_law_simplex", .glo "_law_flips", .glo "_law_lots", .glo "_law_choose", .glo "_law_net_holds", .glo "law", .glo "Fault", .glo "Malformed", .glo "Refused", .glo "NoText", .glo "Net", .free "len", .free "range", .free "tuple", .free "list", .free "all", .free "any", .free "sum", .free "isinstance", .free "int", .free "bool", .free "str", .free "abs", .free "max"]
def fa2 : List He.Fa := [.free "min", .free "sorted", .free "enumerate", .free "zip", .free "set", .free "dict", .free "divmod", .free "print", .int "MOST_THINGS" 4000, .int "MOST_RANK" 6, .mkr "Net"]
def fa : List He.Fa := fa0 ++ (fa1 ++ (fa2))
def ex (K : PySem.W.Frag) : Bool := (clsTB K && (exTB K && (okB K "Fault" && okE K "Malformed" "reason")))
def loose0 : List Str := ["Fault", "Malformed", "Refused", "NoText", "is_integer", "is_count", "is_rising", "check_count", "is_order", "then", "joined_lots", "go_together", "are_flips", "Net", "check_net", "check_flag", "check_kept", "plain_components", "components", "places_in", "faces", "face_places", "face_of", "face_row", "mark_rows", "marks", "are_told", "is_on", "euler", "is_flat"]
def loose1 : List Str := ["_law_state", "_law_take", "_law_says", "_law_is_whole", "_law_same", "_law_told", "_law_all_malformed", "_law_pairing", "_law_line", "_law_form", "_law_map", "_law_simplex", "_law_flips", "_law_lots", "_law_choose", "_law_net_holds", "MOST_THINGS", "MOST_RANK"]
def loose : List Str := loose0 ++ (loose1)
abbrev R : PySem.W.OpenRow := PySem.W.OpenLaw.row PySem.Challenge.rw_flagsflipped_k03_whole_faces_and_marks
abbrev hk : PySem.W.Hook := hookH 6 fa fn ex
def ob (s : PySem.W.SharedT) : AlH := obH 6 fa fn ex (HandSHeadRun.getT s)
theorem ob_eq (s : PySem.W.SharedT) : ob s = hk.obs s.abs := obH_eq s
theorem run (w : PySem.World) : HandSHeadRun.RunEq R (PySem.W.view R.prog [54]) hk ob 4000 loose w := by
  intro os
  kernel_rfl
section
variable {P : PySem.Program} {w : PySem.World} {K : PySem.W.Frag} {h : PySem.Heap} {mg : Str → Option Value} (X : K.In h) (Ns : h.Ns PySem.mainGlobals mg) (c : He.SaysD fa fn K) (e : ex K = true)
include X Ns c e
theorem facts {a : Addr} (hf : mg "law" = some (.ref a)) : ∃ fd : PySem.FuncData, (∀ (t : PySem.Shared) (u : Value), PySem.BindsTo t fd ⟨[u], []⟩ [("script", u)]) ∧ ∀ base : PySem.Heap, L2.FnOk P w K mg base (L2.CX P w) 10 a fd ["script"] (lsp K mg sp_law) := by
  refine regL X Ns (Nm := N_law) (c.def_ 43 (d := dd_law) rfl) rfl rfl (c.fact 41 (f := .glo "law") rfl) ⟨rfl, rfl, rfl, by decide +kernel, rfl, by decide +kernel, by decide +kernel⟩ (fun _ _ _ _ _ _ us hl => match us, hl with | [_], _ => rfl) hf fun base => ?_
  have hb : Bs ⟨P, w, K, mg, base⟩ := by
    intro x hx
    simp only [bl, List.mem_cons, List.not_mem_nil, or_false] at hx
    rcases hx with rfl | rfl | rfl | rfl | rfl | rfl | rfl | rfl | rfl | rfl | rfl | rfl | rfl | rfl | rfl | rfl | rfl | rfl | rfl | rfl | rfl
    · exact He.free_ok X Ns (c.fact 47 (f := .free "len") rfl)
    · exact He.free_ok X Ns (c.fact 48 (f := .free "range") rfl)
    · exact He.free_ok X Ns (c.fact 49 (f := .free "tuple") rfl)
    · exact He.free_ok X Ns (c.fact 50 (f := .free "list") rfl)
    · exact He.free_ok X Ns (c.fact 51 (f := .free "all") rfl)
    · exact He.free_ok X Ns (c.fact 52 (f := .free "any") rfl)
    · exact He.free_ok X Ns (c.fact 53 (f := .free "sum") rfl)
    · exact He.free_ok X Ns (c.fact 54 (f := .free "isinstance") rfl)
    · exact He.free_ok X Ns (c.fact 55 (f := .free "int") rfl)
    · exact He.free_ok X Ns (c.fact 56 (f := .free "bool") rfl)
    · exact He.free_ok X Ns (c.fact 57 (f := .free "str") rfl)
    · exact He.free_ok X Ns (c.fact 58 (f := .free "abs") rfl)
    · exact He.free_ok X Ns (c.fact 59 (f := .free "max") rfl)
    · exact He.free_ok X Ns (c.fact 60 (f := .free "min") rfl)
    · exact He.free_ok X Ns (c.fact 61 (f := .free "sorted") rfl)
    · exact He.free_ok X Ns (c.fact 62 (f := .free "enumerate") rfl)
    · exact He.free_ok X Ns (c.fact 63 (f := .free "zip") rfl)
    · exact He.free_ok X Ns (c.fact 64 (f := .free "set") rfl)
    · exact He.free_ok X Ns (c.fact 65 (f := .free "dict") rfl)
    · exact He.free_ok X Ns (c.fact 66 (f := .free "divmod") rfl)
    · exact He.free_ok X Ns (c.fact 67 (f := .free "print") rfl)
  have HC : ClsT ⟨P, w, K, mg, base⟩ := (clsT_of X Ns (He.ba e).1).1
  have HT : IsT ⟨P, w, K, mg, base⟩ := (clsT_of X Ns (He.ba e).1).2
  have HX : ExT ⟨P, w, K, mg, base⟩ := exT_of X Ns (He.ba (He.ba e).2).1
  have x_Malformed : ExR ⟨P, w, K, mg, base⟩ 1 "Malformed" "reason" := by
    obtain ⟨fd, F⟩ := c.def_ 0 (d := dx_Malformed) rfl
    exact exR_of X Ns (c.fact 43 (f := .glo "Malformed") rfl) (He.ba (He.ba (He.ba e).2).2).2 (okX (bn := "Fault") (y := "reason") F ⟨rfl, rfl, rfl, by decide +kernel, rfl, by decide +kernel, by decide +kernel⟩ (He.glo_ok X Ns (c.fact 42 (f := .glo "Fault") rfl)) (okB_ok (He.ba (He.ba (He.ba e).2).2).1) (by decide +kernel) (visB_ok (by decide +kernel)) (visB_ok (by decide +kernel)) (by decide) (by decide) (by decide) (fun _ => rfl) (fun _ => rfl) (fun _ => rfl)) (F.bindsN (fun _ _ _ _ _ _ us hl => match us, hl with | [_, _], _ => rfl))
  have r_is_integer : FnR ⟨P, w, K, mg, base⟩ 1 "is_integer" sp_is_integer [] := reg X Ns (c.def_ 1 (d := dd_is_integer) rfl) rfl rfl (c.fact 0 (f := .glo "is_integer") rfl) (ps := ["value"]) ⟨rfl, rfl, rfl, by decide +kernel, rfl, by decide +kernel, by decide +kernel⟩ (d_is_integer hb HC HT HX ) (fun _ _ _ _ _ _ us hl => match us, hl with | [_], _ => rfl)
  have r_is_count : FnR ⟨P, w, K, mg, base⟩ 2 "is_count" sp_is_count [] := reg X Ns (c.def_ 2 (d := dd_is_count) rfl) rfl rfl (c.fact 1 (f := .glo "is_count") rfl) (ps := ["value", "low", "high"]) ⟨rfl, rfl, rfl, by decide +kernel, rfl, by decide +kernel, by decide +kernel⟩ (d_is_count hb HC HT HX r_is_integer) (fun _ _ _ _ _ _ us hl => match us, hl with | [_, _, _], _ => rfl)
  have r_is_rising : FnR ⟨P, w, K, mg, base⟩ 3 "is_rising" sp_is_rising [] := reg X Ns (c.def_ 3 (d := dd_is_rising) rfl) rfl rfl (c.fact 2 (f := .glo "is_rising") rfl) (ps := ["value", "low", "high"]) ⟨rfl, rfl, rfl, by decide +kernel, rfl, by decide +kernel, by decide +kernel⟩ (d_is_rising hb HC HT HX r_is_count) (fun _ _ _ _ _ _ us hl => match us, hl with | [_, _, _], _ => rfl)
  have r_check_count : FnR ⟨P, w, K, mg, base⟩ 3 "check_count" sp_check_count [] := reg X Ns (c.def_ 4 (d := dd_check_count) rfl) rfl rfl (c.fact 3 (f := .glo "check_count") rfl) (ps := ["value", "low", "high"]) ⟨rfl, rfl, rfl, by decide +kernel, rfl, by decide +kernel, by decide +kernel⟩ (d_check_count hb HC HT HX x_Malformed r_is_count) (fun _ _ _ _ _ _ us hl => match us, hl with | [_, _, _], _ => rfl)
  have r_is_order : FnR ⟨P, w, K, mg, base⟩ 3 "is_order" sp_is_order [] := reg X Ns (c.def_ 5 (d := dd_is_order) rfl) rfl rfl (c.fact 4 (f := .glo "is_order") rfl) (ps := ["value"]) ⟨rfl, rfl, rfl, by decide +kernel, rfl, by decide +kernel, by decide +kernel⟩ (d_is_order hb HC HT HX (He.int_ok X Ns (c.fact 68 (f := .int "MOST_THINGS" 4000) rfl)) r_is_count) (fun _ _ _ _ _ _ us hl => match us, hl with | [_], _ => rfl)
  have r_then : FnR ⟨P, w, K, mg, base⟩ 1 "then" sp_then [] := reg X Ns (c.def_ 6 (d := dd_then) rfl) rfl rfl (c.fact 5 (f := .glo "then") rfl) (ps := ["one", "two"]) ⟨rfl, rfl, rfl, by decide +kernel, rfl, by decide +kernel, by decide +kernel⟩ (d_then hb HC HT HX ) (fun _ _ _ _ _ _ us hl => match us, hl with | [_, _], _ => rfl)
  have r_joined_lots : FnR ⟨P, w, K, mg, base⟩ 1 "joined_lots" sp_joined_lots [] := reg X Ns (c.def_ 7 (d := dd_joined_lots) rfl) rfl rfl (c.fact 6 (f := .glo "joined_lots") rfl) (ps := ["makers", "m"]) ⟨rfl, rfl, rfl, by decide +kernel, rfl, by decide +kernel, by decide +kernel⟩ (d_joined_lots hb HC HT HX ) (fun _ _ _ _ _ _ us hl => match us, hl with | [_, _], _ => rfl)
  have r_go_together : FnR ⟨P, w, K, mg, base⟩ 2 "go_together" sp_go_together [] := reg X Ns (c.def_ 8 (d := dd_go_together) rfl) rfl rfl (c.fact 7 (f := .glo "go_together") rfl) (ps := ["flips"]) ⟨rfl, rfl, rfl, by decide +kernel, rfl, by decide +kernel, by decide +kernel⟩ (d_go_together hb HC HT HX r_then) (fun _ _ _ _ _ _ us hl => match us, hl with | [_], _ => rfl)
  have r_are_flips : FnR ⟨P, w, K, mg, base⟩ 4 "are_flips" sp_are_flips [] := reg X Ns (c.def_ 9 (d := dd_are_flips) rfl) rfl rfl (c.fact 8 (f := .glo "are_flips") rfl) (ps := ["value"]) ⟨rfl, rfl, rfl, by decide +kernel, rfl, by decide +kernel, by decide +kernel⟩ (d_are_flips hb HC HT HX (He.int_ok X Ns (c.fact 69 (f := .int "MOST_RANK" 6) rfl)) r_go_together r_is_order r_joined_lots r_then) (fun _ _ _ _ _ _ us hl => match us, hl with | [_], _ => rfl)
  have r_Net : MkR ⟨P, w, K, mg, base⟩ 5 "Net" sp_Net_init [] := regI X Ns (c.def_ 10 (d := dd_Net_init) rfl) rfl rfl (c.fact 46 (f := .glo "Net") rfl) (c.fact 70 (f := .mkr "Net") rfl) (ps := ["self", "flips"]) ⟨rfl, rfl, rfl, by decide +kernel, rfl, by decide +kernel, by decide +kernel⟩ (d_Net_init hb HC HT HX x_Malformed r_are_flips) (fun _ _ _ _ _ _ us hl => match us, hl with | [_, _], _ => rfl)
  have r_check_net : FnR ⟨P, w, K, mg, base⟩ 3 "check_net" sp_check_net [] := reg X Ns (c.def_ 11 (d := dd_check_net) rfl) rfl rfl (c.fact 9 (f := .glo "check_net") rfl) (ps := ["value"]) ⟨rfl, rfl, rfl, by decide +kernel, rfl, by decide +kernel, by decide +kernel⟩ (d_check_net hb HC HT HX x_Malformed ⟨_, He.glo_ok X Ns (c.fact 46 (f := .glo "Net") rfl)⟩) (fun _ _ _ _ _ _ us hl => match us, hl with | [_], _ => rfl)
  have r_check_flag : FnR ⟨P, w, K, mg, base⟩ 4 "check_flag" sp_check_flag [] := reg X Ns (c.def_ 12 (d := dd_check_flag) rfl) rfl rfl (c.fact 10 (f := .glo "check_flag") rfl) (ps := ["net", "flag"]) ⟨rfl, rfl, rfl, by decide +kernel, rfl, by decide +kernel, by decide +kernel⟩ (d_check_flag hb HC HT HX r_check_count r_check_net) (fun _ _ _ _ _ _ us hl => match us, hl with | [_, _], _ => rfl)
  have r_check_kept : FnR ⟨P, w, K, mg, base⟩ 4 "check_kept" sp_check_kept [] := reg X Ns (c.def_ 13 (d := dd_check_kept) rfl) rfl rfl (c.fact 11 (f := .glo "check_kept") rfl) (ps := ["net", "kept"]) ⟨rfl, rfl, rfl, by decide +kernel, rfl, by decide +kernel, by decide +kernel⟩ (d_check_kept hb HC HT HX x_Malformed r_check_net r_is_rising) (fun _ _ _ _ _ _ us hl => match us, hl with | [_, _], _ => rfl)
  have r_plain_components : FnR ⟨P, w, K, mg, base⟩ 2 "plain_components" sp_plain_components [] := reg X Ns (c.def_ 14 (d := dd_plain_components) rfl) rfl rfl (c.fact 12 (f := .glo "plain_components") rfl) (ps := ["flips", "kept"]) ⟨rfl, rfl, rfl, by decide +kernel, rfl, by decide +kernel, by decide +kernel⟩ (d_plain_components hb HC HT HX r_joined_lots) (fun _ _ _ _ _ _ us hl => match us, hl with | [_, _], _ => rfl)
  have r_components : FnR ⟨P, w, K, mg, base⟩ 5 "components" sp_components [] := reg X Ns (c.def_ 15 (d := dd_components) rfl) rfl rfl (c.fact 13 (f := .glo "components") rfl) (ps := ["net", "kept"]) ⟨rfl, rfl, rfl, by decide +kernel, rfl, by decide +kernel, by decide +kernel⟩ (d_components hb HC HT HX r_check_kept r_plain_components) (fun _ _ _ _ _ _ us hl => match us, hl with | [_, _], _ => rfl)
  have r_places_in : FnR ⟨P, w, K, mg, base⟩ 1 "places_in" sp_places_in [] := reg X Ns (c.def_ 16 (d := dd_places_in) rfl) rfl rfl (c.fact 14 (f := .glo "places_in") rfl) (ps := ["lots", "m"]) ⟨rfl, rfl, rfl, by decide +kernel, rfl, by decide +kernel, by decide +kernel⟩ (d_places_in hb HC HT HX ) (fun _ _ _ _ _ _ us hl => match us, hl with | [_, _], _ => rfl)
  have r_faces : FnR ⟨P, w, K, mg, base⟩ 4 "faces" sp_faces [] := reg X Ns (c.def_ 17 (d := dd_faces) rfl) rfl rfl (c.fact 15 (f := .glo "faces") rfl) (ps := ["net", "i"]) ⟨rfl, rfl, rfl, by decide +kernel, rfl, by decide +kernel, by decide +kernel⟩ (d_faces hb HC HT HX r_check_count r_check_net r_plain_components) (fun _ _ _ _ _ _ us hl => match us, hl with | [_, _], _ => rfl)
  have r_face_places : FnR ⟨P, w, K, mg, base⟩ 5 "face_places" sp_face_places [] := reg X Ns (c.def_ 18 (d := dd_face_places) rfl) rfl rfl (c.fact 16 (f := .glo "face_places") rfl) (ps := ["net", "i"]) ⟨rfl, rfl, rfl, by decide +kernel, rfl, by decide +kernel, by decide +kernel⟩ (d_face_places hb HC HT HX r_faces r_places_in) (fun _ _ _ _ _ _ us hl => match us, hl with | [_, _], _ => rfl)
  have r_face_of : FnR ⟨P, w, K, mg, base⟩ 6 "face_of" sp_face_of [] := reg X Ns (c.def_ 19 (d := dd_face_of) rfl) rfl rfl (c.fact 17 (f := .glo "face_of") rfl) (ps := ["net", "i", "flag"]) ⟨rfl, rfl, rfl, by decide +kernel, rfl, by decide +kernel, by decide +kernel⟩ (d_face_of hb HC HT HX r_check_count r_check_flag r_face_places) (fun _ _ _ _ _ _ us hl => match us, hl with | [_, _, _], _ => rfl)
  have r_face_row : FnR ⟨P, w, K, mg, base⟩ 5 "face_row" sp_face_row [] := reg X Ns (c.def_ 20 (d := dd_face_row) rfl) rfl rfl (c.fact 18 (f := .glo "face_row") rfl) (ps := ["net"]) ⟨rfl, rfl, rfl, by decide +kernel, rfl, by decide +kernel, by decide +kernel⟩ (d_face_row hb HC HT HX r_check_net r_faces) (fun _ _ _ _ _ _ us hl => match us, hl with | [_], _ => rfl)
  have r_mark_rows : FnR ⟨P, w, K, mg, base⟩ 6 "mark_rows" sp_mark_rows [] := reg X Ns (c.def_ 21 (d := dd_mark_rows) rfl) rfl rfl (c.fact 19 (f := .glo "mark_rows") rfl) (ps := ["net"]) ⟨rfl, rfl, rfl, by decide +kernel, rfl, by decide +kernel, by decide +kernel⟩ (d_mark_rows hb HC HT HX r_face_places) (fun _ _ _ _ _ _ us hl => match us, hl with | [_], _ => rfl)
  have r_marks : FnR ⟨P, w, K, mg, base⟩ 7 "marks" sp_marks [] := reg X Ns (c.def_ 22 (d := dd_marks) rfl) rfl rfl (c.fact 20 (f := .glo "marks") rfl) (ps := ["net", "flag"]) ⟨rfl, rfl, rfl, by decide +kernel, rfl, by decide +kernel, by decide +kernel⟩ (d_marks hb HC HT HX r_check_flag r_mark_rows) (fun _ _ _ _ _ _ us hl => match us, hl with | [_, _], _ => rfl)
  have r_are_told : FnR ⟨P, w, K, mg, base⟩ 7 "are_told" sp_are_told [] := reg X Ns (c.def_ 23 (d := dd_are_told) rfl) rfl rfl (c.fact 21 (f := .glo "are_told") rfl) (ps := ["net"]) ⟨rfl, rfl, rfl, by decide +kernel, rfl, by decide +kernel, by decide +kernel⟩ (d_are_told hb HC HT HX r_check_net r_mark_rows) (fun _ _ _ _ _ _ us hl => match us, hl with | [_], _ => rfl)
  have r_is_on : FnR ⟨P, w, K, mg, base⟩ 5 "is_on" sp_is_on [] := reg X Ns (c.def_ 24 (d := dd_is_on) rfl) rfl rfl (c.fact 22 (f := .glo "is_on") rfl) (ps := ["net", "i", "a", "j", "b"]) ⟨rfl, rfl, rfl, by decide +kernel, rfl, by decide +kernel, by decide +kernel⟩ (d_is_on hb HC HT HX x_Malformed r_check_count r_check_net r_faces) (fun _ _ _ _ _ _ us hl => match us, hl with | [_, _, _, _, _], _ => rfl)
  have r_euler : FnR ⟨P, w, K, mg, base⟩ 6 "euler" sp_euler [] := reg X Ns (c.def_ 25 (d := dd_euler) rfl) rfl rfl (c.fact 23 (f := .glo "euler") rfl) (ps := ["net"]) ⟨rfl, rfl, rfl, by decide +kernel, rfl, by decide +kernel, by decide +kernel⟩ (d_euler hb HC HT HX r_face_row) (fun _ _ _ _ _ _ us hl => match us, hl with | [_], _ => rfl)
  have r_is_flat : FnR ⟨P, w, K, mg, base⟩ 6 "is_flat" sp_is_flat [] := reg X Ns (c.def_ 26 (d := dd_is_flat) rfl) rfl rfl (c.fact 24 (f := .glo "is_flat") rfl) (ps := ["net", "i", "j"]) ⟨rfl, rfl, rfl, by decide +kernel, rfl, by decide +kernel, by decide +kernel⟩ (d_is_flat hb HC HT HX r_check_count r_check_net r_face_places) (fun _ _ _ _ _ _ us hl => match us, hl with | [_, _, _], _ => rfl)
  have r__law_state : FnR ⟨P, w, K, mg, base⟩ 1 "_law_state" sp__law_state [] := regC X Ns (c.def_ 27 (d := dd__law_state) rfl) rfl rfl (c.fact 25 (f := .glo "_law_state") rfl) (ps := ["script"]) ⟨rfl, rfl, rfl, by decide +kernel, rfl, by decide +kernel, by decide +kernel⟩ (d__law_state hb HC HT HX ) (fun _ _ _ _ _ _ us hl => match us, hl with | [_], _ => rfl)
  have r__law_take : FnR ⟨P, w, K, mg, base⟩ 1 "_law_take" sp__law_take [] := reg X Ns (c.def_ 28 (d := dd__law_take) rfl) rfl rfl (c.fact 26 (f := .glo "_law_take") rfl) (ps := ["state", "m"]) ⟨rfl, rfl, rfl, by decide +kernel, rfl, by decide +kernel, by decide +kernel⟩ (d__law_take hb HC HT HX ) (fun _ _ _ _ _ _ us hl => match us, hl with | [_, _], _ => rfl)
  have r__law_says : FnR ⟨P, w, K, mg, base⟩ 1 "_law_says" sp__law_says [] := reg X Ns (c.def_ 29 (d := dd__law_says) rfl) rfl rfl (c.fact 27 (f := .glo "_law_says") rfl) (ps := ["value", "due"]) ⟨rfl, rfl, rfl, by decide +kernel, rfl, by decide +kernel, by decide +kernel⟩ (d__law_says hb HC HT HX ) (fun _ _ _ _ _ _ us hl => match us, hl with | [_, _], _ => rfl)
  have r__law_is_whole : FnR ⟨P, w, K, mg, base⟩ 1 "_law_is_whole" sp__law_is_whole [] := reg X Ns (c.def_ 30 (d := dd__law_is_whole) rfl) rfl rfl (c.fact 28 (f := .glo "_law_is_whole") rfl) (ps := ["value"]) ⟨rfl, rfl, rfl, by decide +kernel, rfl, by decide +kernel, by decide +kernel⟩ (d__law_is_whole hb HC HT HX ) (fun _ _ _ _ _ _ us hl => match us, hl with | [_], _ => rfl)
  have r__law_same0 : FnR ⟨P, w, K, mg, base⟩ 2 "_law_same" (sp__law_same 0) [] := reg X Ns (c.def_ 31 (d := dd__law_same) rfl) rfl rfl (c.fact 29 (f := .glo "_law_same") rfl) (k := 1) (ps := ["one", "two"]) (Nm := N__law_same) ⟨rfl, rfl, rfl, by decide +kernel, rfl, by decide +kernel, by decide +kernel⟩ (fun _ _ _ => mss_no) (fun _ _ _ _ _ _ us hl => match us, hl with | [_, _], _ => rfl)
  have r__law_same1 : FnR ⟨P, w, K, mg, base⟩ 3 "_law_same" (sp__law_same 1) [] := reg X Ns (c.def_ 31 (d := dd__law_same) rfl) rfl rfl (c.fact 29 (f := .glo "_law_same") rfl) (ps := ["one", "two"]) ⟨rfl, rfl, rfl, by decide +kernel, rfl, by decide +kernel, by decide +kernel⟩ (d__law_same hb HC HT HX r__law_is_whole (by decide) r__law_same0) (fun _ _ _ _ _ _ us hl => match us, hl with | [_, _], _ => rfl)
  have r__law_same2 : FnR ⟨P, w, K, mg, base⟩ 4 "_law_same" (sp__law_same 2) [] := reg X Ns (c.def_ 31 (d := dd__law_same) rfl) rfl rfl (c.fact 29 (f := .glo "_law_same") rfl) (ps := ["one", "two"]) ⟨rfl, rfl, rfl, by decide +kernel, rfl, by decide +kernel, by decide +kernel⟩ (d__law_same hb HC HT HX r__law_is_whole (by decide) r__law_same1) (fun _ _ _ _ _ _ us hl => match us, hl with | [_, _], _ => rfl)
  have r__law_same3 : FnR ⟨P, w, K, mg, base⟩ 5 "_law_same" (sp__law_same 3) [] := reg X Ns (c.def_ 31 (d := dd__law_same) rfl) rfl rfl (c.fact 29 (f := .glo "_law_same") rfl) (ps := ["one", "two"]) ⟨rfl, rfl, rfl, by decide +kernel, rfl, by decide +kernel, by decide +kernel⟩ (d__law_same hb HC HT HX r__law_is_whole (by decide) r__law_same2) (fun _ _ _ _ _ _ us hl => match us, hl with | [_, _], _ => rfl)
  have r__law_same4 : FnR ⟨P, w, K, mg, base⟩ 6 "_law_same" (sp__law_same 4) [] := reg X Ns (c.def_ 31 (d := dd__law_same) rfl) rfl rfl (c.fact 29 (f := .glo "_law_same") rfl) (ps := ["one", "two"]) ⟨rfl, rfl, rfl, by decide +kernel, rfl, by decide +kernel, by decide +kernel⟩ (d__law_same hb HC HT HX r__law_is_whole (by decide) r__law_same3) (fun _ _ _ _ _ _ us hl => match us, hl with | [_, _], _ => rfl)
  have r__law_same := r__law_same4
  have tblR : TblR ⟨P, w, K, mg, base⟩ 7 tbl := (.cons r_faces (by decide) (.cons r_face_of (by decide) (.cons r_marks (by decide) (.cons r_components (by decide) (.cons r_face_row (by decide) (.cons r_are_told (by decide) (.cons r_euler (by decide) (.cons r_is_flat (by decide) (.cons r_is_on (by decide) .nil)))))))))
  have r__law_told : FnR ⟨P, w, K, mg, base⟩ 8 "_law_told" sp__law_told [] := reg X Ns (c.def_ 32 (d := dd__law_told) rfl) rfl rfl (c.fact 30 (f := .glo "_law_told") rfl) (ps := ["act", "given"]) ⟨rfl, rfl, rfl, by decide +kernel, rfl, by decide +kernel, by decide +kernel⟩ (d__law_told hb HC HT HX (He.glo_ok X Ns (c.fact 43 (f := .glo "Malformed") rfl)) (He.glo_ok X Ns (c.fact 45 (f := .glo "NoText") rfl)) (He.glo_ok X Ns (c.fact 44 (f := .glo "Refused") rfl)) tblR) (fun _ _ _ _ _ _ us hl => match us, hl with | [_, _], _ => rfl)
  have r__law_all_malformed : FnR ⟨P, w, K, mg, base⟩ 9 "_law_all_malformed" sp__law_all_malformed [] := reg X Ns (c.def_ 33 (d := dd__law_all_malformed) rfl) rfl rfl (c.fact 31 (f := .glo "_law_all_malformed") rfl) (ps := ["tried"]) ⟨rfl, rfl, rfl, by decide +kernel, rfl, by decide +kernel, by decide +kernel⟩ (d__law_all_malformed hb HC HT HX r__law_told) (fun _ _ _ _ _ _ us hl => match us, hl with | [_], _ => rfl)
  have r__law_pairing : FnR ⟨P, w, K, mg, base⟩ 2 "_law_pairing" sp__law_pairing [] := reg X Ns (c.def_ 34 (d := dd__law_pairing) rfl) rfl rfl (c.fact 32 (f := .glo "_law_pairing") rfl) (ps := ["state", "m", "some"]) ⟨rfl, rfl, rfl, by decide +kernel, rfl, by decide +kernel, by decide +kernel⟩ (d__law_pairing hb HC HT HX r__law_take) (fun _ _ _ _ _ _ us hl => match us, hl with | [_, _, _], _ => rfl)
  have r__law_line : FnR ⟨P, w, K, mg, base⟩ 1 "_law_line" sp__law_line [] := reg X Ns (c.def_ 35 (d := dd__law_line) rfl) rfl rfl (c.fact 33 (f := .glo "_law_line") rfl) (ps := ["flips", "flag"]) ⟨rfl, rfl, rfl, by decide +kernel, rfl, by decide +kernel, by decide +kernel⟩ (d__law_line hb HC HT HX ) (fun _ _ _ _ _ _ us hl => match us, hl with | [_, _], _ => rfl)
  have r__law_form : FnR ⟨P, w, K, mg, base⟩ 2 "_law_form" sp__law_form [] := reg X Ns (c.def_ 36 (d := dd__law_form) rfl) rfl rfl (c.fact 34 (f := .glo "_law_form") rfl) (ps := ["flips", "flag"]) ⟨rfl, rfl, rfl, by decide +kernel, rfl, by decide +kernel, by decide +kernel⟩ (d__law_form hb HC HT HX r__law_line) (fun _ _ _ _ _ _ us hl => match us, hl with | [_, _], _ => rfl)
  have r__law_map : FnR ⟨P, w, K, mg, base⟩ 3 "_law_map" sp__law_map [] := reg X Ns (c.def_ 37 (d := dd__law_map) rfl) rfl rfl (c.fact 35 (f := .glo "_law_map") rfl) (ps := ["state", "some"]) ⟨rfl, rfl, rfl, by decide +kernel, rfl, by decide +kernel, by decide +kernel⟩ (d__law_map hb HC HT HX r__law_form r__law_pairing r__law_take) (fun _ _ _ _ _ _ us hl => match us, hl with | [_, _], _ => rfl)
  have r__law_simplex : FnR ⟨P, w, K, mg, base⟩ 1 "_law_simplex" sp__law_simplex [] := reg X Ns (c.def_ 38 (d := dd__law_simplex) rfl) rfl rfl (c.fact 36 (f := .glo "_law_simplex") rfl) (ps := ["n"]) ⟨rfl, rfl, rfl, by decide +kernel, rfl, by decide +kernel, by decide +kernel⟩ (d__law_simplex hb HC HT HX ) (fun _ _ _ _ _ _ us hl => match us, hl with | [_], _ => rfl)
  have r__law_flips : FnR ⟨P, w, K, mg, base⟩ 4 "_law_flips" sp__law_flips [] := reg X Ns (c.def_ 39 (d := dd__law_flips) rfl) rfl rfl (c.fact 37 (f := .glo "_law_flips") rfl) (ps := ["state"]) ⟨rfl, rfl, rfl, by decide +kernel, rfl, by decide +kernel, by decide +kernel⟩ (d__law_flips hb HC HT HX r__law_form r__law_map r__law_pairing r__law_simplex r__law_take) (fun _ _ _ _ _ _ us hl => match us, hl with | [_], _ => rfl)
  have r__law_lots : FnR ⟨P, w, K, mg, base⟩ 2 "_law_lots" sp__law_lots [] := reg X Ns (c.def_ 40 (d := dd__law_lots) rfl) rfl rfl (c.fact 38 (f := .glo "_law_lots") rfl) (ps := ["flips", "kept", "m"]) ⟨rfl, rfl, rfl, by decide +kernel, rfl, by decide +kernel, by decide +kernel⟩ (d__law_lots hb HC HT HX r__law_line) (fun _ _ _ _ _ _ us hl => match us, hl with | [_, _, _], _ => rfl)
  have r__law_choose : FnR ⟨P, w, K, mg, base⟩ 1 "_law_choose" sp__law_choose [] := reg X Ns (c.def_ 41 (d := dd__law_choose) rfl) rfl rfl (c.fact 39 (f := .glo "_law_choose") rfl) (ps := ["n", "k"]) ⟨rfl, rfl, rfl, by decide +kernel, rfl, by decide +kernel, by decide +kernel⟩ (d__law_choose hb HC HT HX ) (fun _ _ _ _ _ _ us hl => match us, hl with | [_, _], _ => rfl)
  have r__law_net_holds : FnR ⟨P, w, K, mg, base⟩ 8 "_law_net_holds" sp__law_net_holds [] := reg X Ns (c.def_ 42 (d := dd__law_net_holds) rfl) rfl rfl (c.fact 40 (f := .glo "_law_net_holds") rfl) (ps := ["state"]) ⟨rfl, rfl, rfl, by decide +kernel, rfl, by decide +kernel, by decide +kernel⟩ (d__law_net_holds hb HC HT HX r__law_flips r__law_lots r__law_same r__law_says r__law_take r_are_told r_components r_euler r_face_of r_face_row r_faces r_is_flat r_is_on r_marks r_Net) (fun _ _ _ _ _ _ us hl => match us, hl with | [_], _ => rfl)
  exact d_law hb HC HT HX r__law_all_malformed r__law_choose r__law_net_holds r__law_same r__law_simplex r__law_state r_are_told r_euler r_face_row r_is_flat r_Net r_components r_face_of r_faces r_is_on r_marks
end
end K03
open PySem PySem.W PySem.Calls PyProof.Rows
theorem K03.of_plain (hp : ∀ ns : List Int, ns.length ≤ 63 → (∀ z ∈ ns, Builtin.Int.intBits z ≤ 1048576) → K03.sp_law [.slst (ns.map Mi.D.int)] [] (fun d _ => d = .bl true) Mi.noX) : PySem.Challenge.rw_flagsflipped_k03_whole_faces_and_marks.Holds := by
  w_on; o_law
  refine HandSHeadRun.head_any (r := OpenLaw.row PySem.Challenge.rw_flagsflipped_k03_whole_faces_and_marks) (q := view (OpenLaw.row PySem.Challenge.rw_flagsflipped_k03_whole_faces_and_marks).prog [54]) (H := K03.hk) (ob := K03.ob) (M := 4000) (loose := K03.loose) (d := HandSHeadRun.topDef (OpenLaw.row PySem.Challenge.rw_flagsflipped_k03_whole_faces_and_marks).prog 54) (kwd := []) K03.ob_eq
    (by kernel_rfl) (fun s => by kernel_rfl) K03.run (by kernel_rfl) (by kernel_rfl) (by kernel_rfl) (by rfl) (by first | assumption | decide +kernel) (by decide +kernel) ⟨rfl, rfl, rfl, rfl, rfl, by decide +kernel⟩ ?hw ?hc
  case hw => w_witness2
  case hc =>
    refine Mi.walk_H (l := PySem.Challenge.rw_flagsflipped_k03_whole_faces_and_marks) (n := 63) (k := 10) (x := "script") rfl (by decide) (by kernel_rfl) ⟨rfl, by decide, by decide⟩ ?F
    intro w mg fa h Y G hmg0
    obtain ⟨K, KX, c, e⟩ := Y
    have hmg : mg ("law" : PySem.Str) = some (.ref fa) := by
      have e : (HandSHeadRun.topDef (OpenLaw.row PySem.Challenge.rw_flagsflipped_k03_whole_faces_and_marks).prog 54).name = ("law" : PySem.Str) := by kernel_rfl
      rw [← e]
      exact hmg0
    obtain ⟨fd, hb, hF⟩ := K03.facts (P := (PySem.Challenge.rw_flagsflipped_k03_whole_faces_and_marks).prog) (w := w) KX G c e hmg
    exact ⟨K, fd, K03.sp_law, KX, hb, hp, fun base _ _ => hF base⟩
end
section
set_option maxHeartbeats 4000000
namespace K03
open PySem (Str)
open Mi
def y_is_integer : XS := (xsRet (xAnd (x1 (fIsT .int) (xVar 0)) (xNot (x1 (fIsT .bl) (xVar 0)))))
def x_is_integer : XF := xFn y_is_integer 1 1
theorem okb_is_integer : OkS b_is_integer y_is_integer := (ok_sRet (ok_and (ok_1 ok_var) (ok_not (ok_1 ok_var))))
theorem ok_is_integer : OkF sp_is_integer x_is_integer := ok_fn okb_is_integer
def y_is_count : XS := (xsRet (xAnd (xCall x_is_integer [] (xCons (xVar 0) xNil)) (xChain fLe fLe (xVar 1) (xVar 0) (xVar 2))))
def x_is_count : XF := xFn y_is_count 3 3
theorem okb_is_count : OkS b_is_count y_is_count := (ok_sRet (ok_and (ok_call ok_is_integer (ok_cons ok_var ok_nil)) (ok_chain ok_var ok_var ok_var)))
theorem ok_is_count : OkF sp_is_count x_is_count := ok_fn okb_is_count
def y_is_rising : XS := (xsSeq (xsIf (xbOr (xbNot (xT (x1 (fIsT .tup) (xVar 0)))) (xbNot (xT (x1 fAll (xF false (xComp [3] (xiOf (xVar 0)) (xgN 3) xbYes (xCall x_is_count [] (xCons (xVar 3) (xCons (xVar 1) (xCons (xVar 2) xNil)))))))))) (xsRet (xCon (.bl false))) xsNil) (xsRet (x1 fAll (xF false (xComp [4, 5] (xiZip (xVar 0) (xCut (xVar 0) (xoAt (xCon (.int 1))) xoNo)) (xgT [(xgN 4), (xgN 5)]) xbYes (x2 fLt (xVar 4) (xVar 5)))))))
def x_is_rising : XF := xFn y_is_rising 6 3
theorem okb_is_rising : OkS b_is_rising y_is_rising := (ok_sSeq (ok_sIf (ok_bOr (ok_bNot (ok_T (ok_1 ok_var))) (ok_bNot (ok_T (ok_1 (ok_lF (ok_comp (ok_iOf ok_var) ok_gN ok_yes (ok_call ok_is_count (ok_cons ok_var (ok_cons ok_var (ok_cons ok_var ok_nil)))))))))) (ok_sRet ok_con) ok_sNil) (ok_sRet (ok_1 (ok_lF (ok_comp (ok_iZip ok_var (ok_cut ok_var (ok_oAt ok_con) ok_oNo)) (ok_gT (.cons ok_gN (.cons ok_gN .nil))) ok_yes (ok_2 ok_var ok_var))))))
theorem ok_is_rising : OkF sp_is_rising x_is_rising := ok_fn okb_is_rising
def y_check_count : XS := (xsIf (xbNot (xT (xCall x_is_count [] (xCons (xVar 0) (xCons (xVar 1) (xCons (xVar 2) xNil)))))) (xsRaise "Malformed" "reason" (xCon (.str "a number"))) xsNil)
def x_check_count : XF := xFn y_check_count 3 3
theorem okb_check_count : OkS b_check_count y_check_count := (ok_sIf (ok_bNot (ok_T (ok_call ok_is_count (ok_cons ok_var (ok_cons ok_var (ok_cons ok_var ok_nil)))))) (ok_sRaise ok_con) ok_sNil)
theorem ok_check_count : OkF sp_check_count x_check_count := ok_fn okb_check_count
def y_is_order : XS := (xsSeq (xsIf (xbOr (xbNot (xT (x1 (fIsT .tup) (xVar 0)))) (xbNot (xT (xChain fLe fLe (xCon (.int 1)) (x1 fLen (xVar 0)) (xCon (.int 4000)))))) (xsRet (xCon (.bl false))) xsNil) (xsSeq (xsAsg (x1 fLen (xVar 0)) (xgN 1)) (xsSeq (xsIf (xbNot (xT (x1 fAll (xF false (xComp [2] (xiOf (xVar 0)) (xgN 2) xbYes (xCall x_is_count [] (xCons (xVar 2) (xCons (xCon (.int 0)) (xCons (x2 fSub (xVar 1) (xCon (.int 1))) xNil))))))))) (xsRet (xCon (.bl false))) xsNil) (xsRet (x2 fEq (x1 fLenSet (xVar 0)) (xVar 1))))))
def x_is_order : XF := xFn y_is_order 3 1
theorem okb_is_order : OkS b_is_order y_is_order := (ok_sSeq (ok_sIf (ok_bOr (ok_bNot (ok_T (ok_1 ok_var))) (ok_bNot (ok_T (ok_chain ok_con (ok_1 ok_var) ok_con)))) (ok_sRet ok_con) ok_sNil) (ok_sSeq (ok_sAsg (ok_1 ok_var) ok_gN) (ok_sSeq (ok_sIf (ok_bNot (ok_T (ok_1 (ok_lF (ok_comp (ok_iOf ok_var) ok_gN ok_yes (ok_call ok_is_count (ok_cons ok_var (ok_cons ok_con (ok_cons (ok_2 ok_var ok_con) ok_nil))))))))) (ok_sRet ok_con) ok_sNil) (ok_sRet (ok_2 (ok_1 ok_var) ok_var)))))
theorem ok_is_order : OkF sp_is_order x_is_order := ok_fn okb_is_order
def y_then : XS := (xsRet (x1 fTup (xF false (xComp [2] (xiOf (xVar 0)) (xgN 2) xbYes (x2 fIdx (xVar 1) (xVar 2))))))
def x_then : XF := xFn y_then 3 2
theorem okb_then : OkS b_then y_then := (ok_sRet (ok_1 (ok_lF (ok_comp (ok_iOf ok_var) ok_gN ok_yes (ok_2 ok_var ok_var)))))
theorem ok_then : OkF sp_then x_then := ok_fn okb_then
def y_joined_lots : XS := (xsSeq (xsPar 2 3 (xCons (xF true (xl2 fRepL (xF false (xDisp (xCons (xCon (.bl false)) xNil))) (xVar 1))) (xCons (xF true (xDisp xNil)) xNil))) (xsSeq (xsFor (xiRg1 (xVar 1)) (xgN 4) (xsIf (xbNot (xT (x2 fIdx (xVar 2) (xVar 4)))) (xsSeq (xsAsg (xCon (.bl true)) (xgSub (xVar 2) (xVar 4))) (xsSeq (xsPar 5 6 (xCons (xF true (xDisp (xCons (xVar 4) xNil))) (xCons (xCon (.int 0)) xNil))) (xsSeq (xsWhile (xT (x2 fLt (xVar 6) (x1 fLen (xVar 5)))) (xsSeq (xsFor (xiOf (xVar 0)) (xgN 7) (xsSeq (xsAsg (x2 fIdx (xVar 7) (x2 fIdx (xVar 5) (xVar 6))) (xgN 8)) (xsIf (xbNot (xT (x2 fIdx (xVar 2) (xVar 8)))) (xsSeq (xsAsg (xCon (.bl true)) (xgSub (xVar 2) (xVar 8))) (xsExpr (xMut fApp (xVar 5) (xCons (xVar 8) xNil)))) xsNil))) (xsAsg (x2 fAdd (xVar 6) (xCon (.int 1))) (xgN 6)))) (xsExpr (xMut fApp (xVar 3) (xCons (x1 fTup (xF false (xl1 fSrtF (xVar 5)))) xNil)))))) xsNil)) (xsRet (x1 fTup (xVar 3)))))
def x_joined_lots : XF := xFn y_joined_lots 9 2
theorem okb_joined_lots : OkS b_joined_lots y_joined_lots := (ok_sSeq (ok_sPar (ok_cons (ok_lF (ok_l2 (ok_lF (ok_disp (ok_cons ok_con ok_nil))) ok_var)) (ok_cons (ok_lF (ok_disp ok_nil)) ok_nil))) (ok_sSeq (ok_sFor (ok_iRg1 ok_var) ok_gN (ok_sIf (ok_bNot (ok_T (ok_2 ok_var ok_var))) (ok_sSeq (ok_sAsg ok_con (ok_gSub ok_var ok_var)) (ok_sSeq (ok_sPar (ok_cons (ok_lF (ok_disp (ok_cons ok_var ok_nil))) (ok_cons ok_con ok_nil))) (ok_sSeq (ok_sWhile (ok_T (ok_2 ok_var (ok_1 ok_var))) (ok_sSeq (ok_sFor (ok_iOf ok_var) ok_gN (ok_sSeq (ok_sAsg (ok_2 ok_var (ok_2 ok_var ok_var)) ok_gN) (ok_sIf (ok_bNot (ok_T (ok_2 ok_var ok_var))) (ok_sSeq (ok_sAsg ok_con (ok_gSub ok_var ok_var)) (ok_sExpr (ok_mut ok_var (ok_cons ok_var ok_nil)))) ok_sNil))) (ok_sAsg (ok_2 ok_var ok_con) ok_gN))) (ok_sExpr (ok_mut ok_var (ok_cons (ok_1 (ok_lF (ok_srt ok_var))) ok_nil)))))) ok_sNil)) (ok_sRet (ok_1 ok_var))))
theorem ok_joined_lots : OkF sp_joined_lots x_joined_lots := ok_fn okb_joined_lots
def y_go_together : XS := (xsSeq (xsFor (xiEnTu (xVar 0)) (xgT [(xgN 1), (xgN 2)]) (xsFor (xiOf (xCut (xVar 0) (xoAt (x2 fAdd (xVar 1) (xCon (.int 2)))) xoNo)) (xgN 3) (xsIf (xT (x2 fNe (xCall x_then [] (xCons (xVar 2) (xCons (xVar 3) xNil))) (xCall x_then [] (xCons (xVar 3) (xCons (xVar 2) xNil))))) (xsRet (xCon (.bl false))) xsNil))) (xsRet (xCon (.bl true))))
def x_go_together : XF := xFn y_go_together 4 1
theorem okb_go_together : OkS b_go_together y_go_together := (ok_sSeq (ok_sFor (ok_iEnTu ok_var) (ok_gT (.cons ok_gN (.cons ok_gN .nil))) (ok_sFor (ok_iOf (ok_cut ok_var (ok_oAt (ok_2 ok_var ok_con)) ok_oNo)) ok_gN (ok_sIf (ok_T (ok_2 (ok_call ok_then (ok_cons ok_var (ok_cons ok_var ok_nil))) (ok_call ok_then (ok_cons ok_var (ok_cons ok_var ok_nil))))) (ok_sRet ok_con) ok_sNil))) (ok_sRet ok_con))
theorem ok_go_together : OkF sp_go_together x_go_together := ok_fn okb_go_together
def y_are_flips : XS := (xsSeq (xsIf (xbOr (xbNot (xT (x1 (fIsT .tup) (xVar 0)))) (xbOr (xbNot (xT (xChain fLe fLe (xCon (.int 1)) (x1 fLen (xVar 0)) (xCon (.int 6))))) (xbNot (xT (x1 fAll (xF false (xComp [2] (xiOf (xVar 0)) (xgN 2) xbYes (xCall x_is_order [] (xCons (xVar 2) xNil))))))))) (xsRet (xCon (.bl false))) xsNil) (xsSeq (xsAsg (x1 fLen (x2 fIdx (xVar 0) (xCon (.int 0)))) (xgN 1)) (xsSeq (xsIf (xbOr (xbNot (xT (x1 fAll (xF false (xComp [2] (xiOf (xVar 0)) (xgN 2) xbYes (x2 fEq (x1 fLen (xVar 2)) (xVar 1))))))) (xbNot (xT (x1 fAll (xF false (xComp [2] (xiOf (xVar 0)) (xgN 2) xbYes (x2 fEq (xCall x_then [] (xCons (xVar 2) (xCons (xVar 2) xNil))) (xRange (xi1 (xVar 1)))))))))) (xsRet (xCon (.bl false))) xsNil) (xsRet (xAnd (xCall x_go_together [] (xCons (xVar 0) xNil)) (x2 fEq (x1 fLen (xCall x_joined_lots [] (xCons (xVar 0) (xCons (xVar 1) xNil)))) (xCon (.int 1))))))))
def x_are_flips : XF := xFn y_are_flips 3 1
theorem okb_are_flips : OkS b_are_flips y_are_flips := (ok_sSeq (ok_sIf (ok_bOr (ok_bNot (ok_T (ok_1 ok_var))) (ok_bOr (ok_bNot (ok_T (ok_chain ok_con (ok_1 ok_var) ok_con))) (ok_bNot (ok_T (ok_1 (ok_lF (ok_comp (ok_iOf ok_var) ok_gN ok_yes (ok_call ok_is_order (ok_cons ok_var ok_nil))))))))) (ok_sRet ok_con) ok_sNil) (ok_sSeq (ok_sAsg (ok_1 (ok_2 ok_var ok_con)) ok_gN) (ok_sSeq (ok_sIf (ok_bOr (ok_bNot (ok_T (ok_1 (ok_lF (ok_comp (ok_iOf ok_var) ok_gN ok_yes (ok_2 (ok_1 ok_var) ok_var)))))) (ok_bNot (ok_T (ok_1 (ok_lF (ok_comp (ok_iOf ok_var) ok_gN ok_yes (ok_2 (ok_call ok_then (ok_cons ok_var (ok_cons ok_var ok_nil))) (ok_range (ok_r1 ok_var))))))))) (ok_sRet ok_con) ok_sNil) (ok_sRet (ok_and (ok_call ok_go_together (ok_cons ok_var ok_nil)) (ok_2 (ok_1 (ok_call ok_joined_lots (ok_cons ok_var (ok_cons ok_var ok_nil)))) ok_con))))))
theorem ok_are_flips : OkF sp_are_flips x_are_flips := ok_fn okb_are_flips
def y_Net_init : XS := (xsSeq (xsIf (xbNot (xT (xCall x_are_flips [] (xCons (xVar 1) xNil)))) (xsRaise "Malformed" "reason" (xCon (.str "flips"))) xsNil) (xsSeq (xsFld "flips" (xVar 0) (xVar 1)) (xsSeq (xsFld "rank" (xVar 0) (x1 fLen (xVar 1))) (xsFld "many" (xVar 0) (x1 fLen (x2 fIdx (xVar 1) (xCon (.int 0))))))))
def x_Net_init : XF := xFn y_Net_init 2 2
theorem okb_Net_init : OkS b_Net_init y_Net_init := (ok_sSeq (ok_sIf (ok_bNot (ok_T (ok_call ok_are_flips (ok_cons ok_var ok_nil)))) (ok_sRaise ok_con) ok_sNil) (ok_sSeq (ok_sFld ok_var ok_var) (ok_sSeq (ok_sFld ok_var (ok_1 ok_var)) (ok_sFld ok_var (ok_1 (ok_2 ok_var ok_con))))))
theorem ok_Net_init : OkF sp_Net_init x_Net_init := ok_fn okb_Net_init
def y_check_net : XS := (xsIf (xbNot (xT (x1 (fIsC "Net") (xVar 0)))) (xsRaise "Malformed" "reason" (xCon (.str "a net"))) xsNil)
def x_check_net : XF := xFn y_check_net 1 1
theorem okb_check_net : OkS b_check_net y_check_net := (ok_sIf (ok_bNot (ok_T (ok_1 ok_var))) (ok_sRaise ok_con) ok_sNil)
theorem ok_check_net : OkF sp_check_net x_check_net := ok_fn okb_check_net
def y_check_flag : XS := (xsSeq (xsExpr (xCall x_check_net [] (xCons (xVar 0) xNil))) (xsExpr (xCall x_check_count [] (xCons (xVar 1) (xCons (xCon (.int 0)) (xCons (x2 fSub (x1 (fFld "many") (xVar 0)) (xCon (.int 1))) xNil))))))
def x_check_flag : XF := xFn y_check_flag 2 2
theorem okb_check_flag : OkS b_check_flag y_check_flag := (ok_sSeq (ok_sExpr (ok_call ok_check_net (ok_cons ok_var ok_nil))) (ok_sExpr (ok_call ok_check_count (ok_cons ok_var (ok_cons ok_con (ok_cons (ok_2 (ok_1 ok_var) ok_con) ok_nil))))))
theorem ok_check_flag : OkF sp_check_flag x_check_flag := ok_fn okb_check_flag
def y_check_kept : XS := (xsSeq (xsExpr (xCall x_check_net [] (xCons (xVar 0) xNil))) (xsIf (xbNot (xT (xCall x_is_rising [] (xCons (xVar 1) (xCons (xCon (.int 0)) (xCons (x2 fSub (x1 (fFld "rank") (xVar 0)) (xCon (.int 1))) xNil)))))) (xsRaise "Malformed" "reason" (xCon (.str "flips"))) xsNil))
def x_check_kept : XF := xFn y_check_kept 2 2
theorem okb_check_kept : OkS b_check_kept y_check_kept := (ok_sSeq (ok_sExpr (ok_call ok_check_net (ok_cons ok_var ok_nil))) (ok_sIf (ok_bNot (ok_T (ok_call ok_is_rising (ok_cons ok_var (ok_cons ok_con (ok_cons (ok_2 (ok_1 ok_var) ok_con) ok_nil)))))) (ok_sRaise ok_con) ok_sNil))
theorem ok_check_kept : OkF sp_check_kept x_check_kept := ok_fn okb_check_kept
def y_plain_components : XS := (xsRet (xCall x_joined_lots [] (xCons (xF false (xComp [2] (xiOf (xVar 1)) (xgN 2) xbYes (x2 fIdx (xVar 0) (xVar 2)))) (xCons (x1 fLen (x2 fIdx (xVar 0) (xCon (.int 0)))) xNil))))
def x_plain_components : XF := xFn y_plain_components 3 2
theorem okb_plain_components : OkS b_plain_components y_plain_components := (ok_sRet (ok_call ok_joined_lots (ok_cons (ok_lF (ok_comp (ok_iOf ok_var) ok_gN ok_yes (ok_2 ok_var ok_var))) (ok_cons (ok_1 (ok_2 ok_var ok_con)) ok_nil))))
theorem ok_plain_components : OkF sp_plain_components x_plain_components := ok_fn okb_plain_components
def y_components : XS := (xsSeq (xsExpr (xCall x_check_kept [] (xCons (xVar 0) (xCons (xVar 1) xNil)))) (xsRet (xCall x_plain_components [] (xCons (x1 (fFld "flips") (xVar 0)) (xCons (xVar 1) xNil)))))
def x_components : XF := xFn y_components 2 2
theorem okb_components : OkS b_components y_components := (ok_sSeq (ok_sExpr (ok_call ok_check_kept (ok_cons ok_var (ok_cons ok_var ok_nil)))) (ok_sRet (ok_call ok_plain_components (ok_cons (ok_1 ok_var) (ok_cons ok_var ok_nil)))))
theorem ok_components : OkF sp_components x_components := ok_fn okb_components
def y_places_in : XS := (xsSeq (xsAsg (xF true (xl2 fRepL (xF false (xDisp (xCons (xCon (.int 0)) xNil))) (xVar 1))) (xgN 2)) (xsSeq (xsFor (xiEnTu (xVar 0)) (xgT [(xgN 3), (xgN 4)]) (xsFor (xiOf (xVar 4)) (xgN 5) (xsAsg (xVar 3) (xgSub (xVar 2) (xVar 5))))) (xsRet (xVar 2))))
def x_places_in : XF := xFn y_places_in 6 2
theorem okb_places_in : OkS b_places_in y_places_in := (ok_sSeq (ok_sAsg (ok_lF (ok_l2 (ok_lF (ok_disp (ok_cons ok_con ok_nil))) ok_var)) ok_gN) (ok_sSeq (ok_sFor (ok_iEnTu ok_var) (ok_gT (.cons ok_gN (.cons ok_gN .nil))) (ok_sFor (ok_iOf ok_var) ok_gN (ok_sAsg ok_var (ok_gSub ok_var ok_var)))) (ok_sRet ok_var)))
theorem ok_places_in : OkF sp_places_in x_places_in := ok_fn okb_places_in
def y_faces : XS := (xsSeq (xsExpr (xCall x_check_net [] (xCons (xVar 0) xNil))) (xsSeq (xsExpr (xCall x_check_count [] (xCons (xVar 1) (xCons (xCon (.int 0)) (xCons (x2 fSub (x1 (fFld "rank") (xVar 0)) (xCon (.int 1))) xNil))))) (xsRet (xCall x_plain_components [] (xCons (x1 (fFld "flips") (xVar 0)) (xCons (xF false (xComp [2] (xiRg1 (x1 (fFld "rank") (xVar 0))) (xgN 2) (xT (x2 fNe (xVar 2) (xVar 1))) (xVar 2))) xNil))))))
def x_faces : XF := xFn y_faces 3 2
theorem okb_faces : OkS b_faces y_faces := (ok_sSeq (ok_sExpr (ok_call ok_check_net (ok_cons ok_var ok_nil))) (ok_sSeq (ok_sExpr (ok_call ok_check_count (ok_cons ok_var (ok_cons ok_con (ok_cons (ok_2 (ok_1 ok_var) ok_con) ok_nil))))) (ok_sRet (ok_call ok_plain_components (ok_cons (ok_1 ok_var) (ok_cons (ok_lF (ok_comp (ok_iRg1 (ok_1 ok_var)) ok_gN (ok_T (ok_2 ok_var ok_var)) ok_var)) ok_nil))))))
theorem ok_faces : OkF sp_faces x_faces := ok_fn okb_faces
def y_face_places : XS := (xsRet (xCall x_places_in [] (xCons (xCall x_faces [] (xCons (xVar 0) (xCons (xVar 1) xNil))) (xCons (x1 (fFld "many") (xVar 0)) xNil))))
def x_face_places : XF := xFn y_face_places 2 2
theorem okb_face_places : OkS b_face_places y_face_places := (ok_sRet (ok_call ok_places_in (ok_cons (ok_call ok_faces (ok_cons ok_var (ok_cons ok_var ok_nil))) (ok_cons (ok_1 ok_var) ok_nil))))
theorem ok_face_places : OkF sp_face_places x_face_places := ok_fn okb_face_places
def y_face_of : XS := (xsSeq (xsExpr (xCall x_check_flag [] (xCons (xVar 0) (xCons (xVar 2) xNil)))) (xsSeq (xsExpr (xCall x_check_count [] (xCons (xVar 1) (xCons (xCon (.int 0)) (xCons (x2 fSub (x1 (fFld "rank") (xVar 0)) (xCon (.int 1))) xNil))))) (xsRet (x2 fIdx (xCall x_face_places [] (xCons (xVar 0) (xCons (xVar 1) xNil))) (xVar 2)))))
def x_face_of : XF := xFn y_face_of 3 3
theorem okb_face_of : OkS b_face_of y_face_of := (ok_sSeq (ok_sExpr (ok_call ok_check_flag (ok_cons ok_var (ok_cons ok_var ok_nil)))) (ok_sSeq (ok_sExpr (ok_call ok_check_count (ok_cons ok_var (ok_cons ok_con (ok_cons (ok_2 (ok_1 ok_var) ok_con) ok_nil))))) (ok_sRet (ok_2 (ok_call ok_face_places (ok_cons ok_var (ok_cons ok_var ok_nil))) ok_var))))
theorem ok_face_of : OkF sp_face_of x_face_of := ok_fn okb_face_of
def y_face_row : XS := (xsSeq (xsExpr (xCall x_check_net [] (xCons (xVar 0) xNil))) (xsRet (x1 fTup (xF false (xComp [1] (xiRg1 (x1 (fFld "rank") (xVar 0))) (xgN 1) xbYes (x1 fLen (xCall x_faces [] (xCons (xVar 0) (xCons (xVar 1) xNil)))))))))
def x_face_row : XF := xFn y_face_row 2 1
theorem okb_face_row : OkS b_face_row y_face_row := (ok_sSeq (ok_sExpr (ok_call ok_check_net (ok_cons ok_var ok_nil))) (ok_sRet (ok_1 (ok_lF (ok_comp (ok_iRg1 (ok_1 ok_var)) ok_gN ok_yes (ok_1 (ok_call ok_faces (ok_cons ok_var (ok_cons ok_var ok_nil)))))))))
theorem ok_face_row : OkF sp_face_row x_face_row := ok_fn okb_face_row
def y_mark_rows : XS := (xsSeq (xsAsg (xF false (xComp [2] (xiRg1 (x1 (fFld "rank") (xVar 0))) (xgN 2) xbYes (xCall x_face_places [] (xCons (xVar 0) (xCons (xVar 2) xNil))))) (xgN 1)) (xsRet (xF false (xComp [3] (xiRg1 (x1 (fFld "many") (xVar 0))) (xgN 3) xbYes (x1 fTup (xF false (xComp [4] (xiOf (xVar 1)) (xgN 4) xbYes (x2 fIdx (xVar 4) (xVar 3)))))))))
def x_mark_rows : XF := xFn y_mark_rows 5 1
theorem okb_mark_rows : OkS b_mark_rows y_mark_rows := (ok_sSeq (ok_sAsg (ok_lF (ok_comp (ok_iRg1 (ok_1 ok_var)) ok_gN ok_yes (ok_call ok_face_places (ok_cons ok_var (ok_cons ok_var ok_nil))))) ok_gN) (ok_sRet (ok_lF (ok_comp (ok_iRg1 (ok_1 ok_var)) ok_gN ok_yes (ok_1 (ok_lF (ok_comp (ok_iOf ok_var) ok_gN ok_yes (ok_2 ok_var ok_var))))))))
theorem ok_mark_rows : OkF sp_mark_rows x_mark_rows := ok_fn okb_mark_rows
def y_marks : XS := (xsSeq (xsExpr (xCall x_check_flag [] (xCons (xVar 0) (xCons (xVar 1) xNil)))) (xsRet (x2 fIdx (xCall x_mark_rows [] (xCons (xVar 0) xNil)) (xVar 1))))
def x_marks : XF := xFn y_marks 2 2
theorem okb_marks : OkS b_marks y_marks := (ok_sSeq (ok_sExpr (ok_call ok_check_flag (ok_cons ok_var (ok_cons ok_var ok_nil)))) (ok_sRet (ok_2 (ok_call ok_mark_rows (ok_cons ok_var ok_nil)) ok_var)))
theorem ok_marks : OkF sp_marks x_marks := ok_fn okb_marks
def y_are_told : XS := (xsSeq (xsExpr (xCall x_check_net [] (xCons (xVar 0) xNil))) (xsRet (x2 fEq (x1 fLenSet (xCall x_mark_rows [] (xCons (xVar 0) xNil))) (x1 (fFld "many") (xVar 0)))))
def x_are_told : XF := xFn y_are_told 1 1
theorem okb_are_told : OkS b_are_told y_are_told := (ok_sSeq (ok_sExpr (ok_call ok_check_net (ok_cons ok_var ok_nil))) (ok_sRet (ok_2 (ok_1 (ok_call ok_mark_rows (ok_cons ok_var ok_nil))) (ok_1 ok_var))))
theorem ok_are_told : OkF sp_are_told x_are_told := ok_fn okb_are_told
def y_is_on : XS := (xsSeq (xsExpr (xCall x_check_net [] (xCons (xVar 0) xNil))) (xsSeq (xsExpr (xCall x_check_count [] (xCons (xVar 1) (xCons (xCon (.int 0)) (xCons (x2 fSub (x1 (fFld "rank") (xVar 0)) (xCon (.int 1))) xNil))))) (xsSeq (xsExpr (xCall x_check_count [] (xCons (xVar 3) (xCons (xCon (.int 0)) (xCons (x2 fSub (x1 (fFld "rank") (xVar 0)) (xCon (.int 1))) xNil))))) (xsSeq (xsIf (xT (x2 fEq (xVar 1) (xVar 3))) (xsRaise "Malformed" "reason" (xCon (.str "ranks"))) xsNil) (xsSeq (xsPar 5 6 (xCons (xCall x_faces [] (xCons (xVar 0) (xCons (xVar 1) xNil))) (xCons (xCall x_faces [] (xCons (xVar 0) (xCons (xVar 3) xNil))) xNil))) (xsSeq (xsExpr (xCall x_check_count [] (xCons (xVar 2) (xCons (xCon (.int 0)) (xCons (x2 fSub (x1 fLen (xVar 5)) (xCon (.int 1))) xNil))))) (xsSeq (xsExpr (xCall x_check_count [] (xCons (xVar 4) (xCons (xCon (.int 0)) (xCons (x2 fSub (x1 fLen (xVar 6)) (xCon (.int 1))) xNil))))) (xsRet (x2 fGt (xLenAnd (x2 fIdx (xVar 5) (xVar 2)) (x2 fIdx (xVar 6) (xVar 4))) (xCon (.int 0)))))))))))
def x_is_on : XF := xFn y_is_on 7 5
theorem okb_is_on : OkS b_is_on y_is_on := (ok_sSeq (ok_sExpr (ok_call ok_check_net (ok_cons ok_var ok_nil))) (ok_sSeq (ok_sExpr (ok_call ok_check_count (ok_cons ok_var (ok_cons ok_con (ok_cons (ok_2 (ok_1 ok_var) ok_con) ok_nil))))) (ok_sSeq (ok_sExpr (ok_call ok_check_count (ok_cons ok_var (ok_cons ok_con (ok_cons (ok_2 (ok_1 ok_var) ok_con) ok_nil))))) (ok_sSeq (ok_sIf (ok_T (ok_2 ok_var ok_var)) (ok_sRaise ok_con) ok_sNil) (ok_sSeq (ok_sPar (ok_cons (ok_call ok_faces (ok_cons ok_var (ok_cons ok_var ok_nil))) (ok_cons (ok_call ok_faces (ok_cons ok_var (ok_cons ok_var ok_nil))) ok_nil))) (ok_sSeq (ok_sExpr (ok_call ok_check_count (ok_cons ok_var (ok_cons ok_con (ok_cons (ok_2 (ok_1 ok_var) ok_con) ok_nil))))) (ok_sSeq (ok_sExpr (ok_call ok_check_count (ok_cons ok_var (ok_cons ok_con (ok_cons (ok_2 (ok_1 ok_var) ok_con) ok_nil))))) (ok_sRet (ok_2 (ok_lenAnd (ok_2 ok_var ok_var) (ok_2 ok_var ok_var)) ok_con)))))))))
theorem ok_is_on : OkF sp_is_on x_is_on := ok_fn okb_is_on
def y_euler : XS := (xsSeq (xsAsg (xCon (.int 0)) (xgN 1)) (xsSeq (xsFor (xiEnTu (xCall x_face_row [] (xCons (xVar 0) xNil))) (xgT [(xgN 2), (xgN 3)]) (xsAsg (x2 fAdd (xVar 1) (xIf (xT (x2 fEq (x2 fMod (xVar 2) (xCon (.int 2))) (xCon (.int 0)))) (xVar 3) (x1 fNeg (xVar 3)))) (xgN 1))) (xsRet (xVar 1))))
def x_euler : XF := xFn y_euler 4 1
theorem okb_euler : OkS b_euler y_euler := (ok_sSeq (ok_sAsg ok_con ok_gN) (ok_sSeq (ok_sFor (ok_iEnTu (ok_call ok_face_row (ok_cons ok_var ok_nil))) (ok_gT (.cons ok_gN (.cons ok_gN .nil))) (ok_sAsg (ok_2 ok_var (ok_if (ok_T (ok_2 (ok_2 ok_var ok_con) ok_con)) ok_var (ok_1 ok_var))) ok_gN)) (ok_sRet ok_var)))
theorem ok_euler : OkF sp_euler x_euler := ok_fn okb_euler
def y_is_flat : XS := (xsSeq (xsExpr (xCall x_check_net [] (xCons (xVar 0) xNil))) (xsSeq (xsExpr (xCall x_check_count [] (xCons (xVar 1) (xCons (xCon (.int 0)) (xCons (x2 fSub (x1 (fFld "rank") (xVar 0)) (xCon (.int 2))) xNil))))) (xsSeq (xsExpr (xCall x_check_count [] (xCons (xVar 2) (xCons (x2 fAdd (xVar 1) (xCon (.int 1))) (xCons (x2 fSub (x1 (fFld "rank") (xVar 0)) (xCon (.int 1))) xNil))))) (xsSeq (xsPar 3 4 (xCons (xCall x_face_places [] (xCons (xVar 0) (xCons (xVar 1) xNil))) (xCons (xCall x_face_places [] (xCons (xVar 0) (xCons (xVar 2) xNil))) xNil))) (xsRet (x2 fEq (x1 fLenSet (xF false (xlZip (xVar 3) (xVar 4)))) (x2 fMul (x1 fLenSet (xVar 3)) (x1 fLenSet (xVar 4)))))))))
def x_is_flat : XF := xFn y_is_flat 5 3
theorem okb_is_flat : OkS b_is_flat y_is_flat := (ok_sSeq (ok_sExpr (ok_call ok_check_net (ok_cons ok_var ok_nil))) (ok_sSeq (ok_sExpr (ok_call ok_check_count (ok_cons ok_var (ok_cons ok_con (ok_cons (ok_2 (ok_1 ok_var) ok_con) ok_nil))))) (ok_sSeq (ok_sExpr (ok_call ok_check_count (ok_cons ok_var (ok_cons (ok_2 ok_var ok_con) (ok_cons (ok_2 (ok_1 ok_var) ok_con) ok_nil))))) (ok_sSeq (ok_sPar (ok_cons (ok_call ok_face_places (ok_cons ok_var (ok_cons ok_var ok_nil))) (ok_cons (ok_call ok_face_places (ok_cons ok_var (ok_cons ok_var ok_nil))) ok_nil))) (ok_sRet (ok_2 (ok_1 (ok_lF (ok_lZip ok_var ok_var))) (ok_2 (ok_1 ok_var) (ok_1 ok_var))))))))
theorem ok_is_flat : OkF sp_is_flat x_is_flat := ok_fn okb_is_flat
def y__law_state : XS := (xsSeq (xsAsg (xCon (.int 0)) (xgN 1)) (xsSeq (xsAsg (xCon (.int 1)) (xgN 2)) (xsSeq (xsFor (xiOf (xF false (xlCut (xVar 0) xoNo (xoAt (xCon (.int 63)))))) (xgN 3) (xsSeq (xsAsg (x2 fAdd (x2 fMul (xVar 1) (xCon (.int 1000003))) (x1 fAbs (xVar 3))) (xgN 1)) (xsAsg (x2 fMod (x1 fInt (x2 fAdd (x2 fMul (xVar 2) (xCon (.int 48271))) (xVar 3))) (xCon (.int 2147483647))) (xgN 2)))) (xsRet (xF true (xDisp (xCons (xVar 1) (xCons (xIf (xT (x2 fNe (xVar 2) (xCon (.int 1973665155)))) (xVar 2) (xCon (.int 7))) xNil))))))))
def x__law_state : XF := xFnC y__law_state 4 1
theorem okb__law_state : OkS b__law_state y__law_state := (ok_sSeq (ok_sAsg ok_con ok_gN) (ok_sSeq (ok_sAsg ok_con ok_gN) (ok_sSeq (ok_sFor (ok_iOf (ok_lF (ok_lcut ok_var ok_oNo (ok_oAt ok_con)))) ok_gN (ok_sSeq (ok_sAsg (ok_2 (ok_2 ok_var ok_con) (ok_1 ok_var)) ok_gN) (ok_sAsg (ok_2 (ok_1 (ok_2 (ok_2 ok_var ok_con) ok_var)) ok_con) ok_gN))) (ok_sRet (ok_lF (ok_disp (ok_cons ok_var (ok_cons (ok_if (ok_T (ok_2 ok_var ok_con)) ok_var ok_con) ok_nil))))))))
theorem ok__law_state : OkF sp__law_state x__law_state := ok_fnC okb__law_state
def y__law_take : XS := (xsSeq (xsIf (xT (x2 fGt (x2 fIdx (xVar 0) (xCon (.int 0))) (xCon (.int 0)))) (xsSeq (xsAsg (x2 fMod (x1 fInt (x2 fIdx (xVar 0) (xCon (.int 0)))) (xVar 1)) (xgN 2)) (xsSeq (xsAsg (x2 fDiv (x2 fIdx (xVar 0) (xCon (.int 0))) (xVar 1)) (xgSub (xVar 0) (xCon (.int 0)))) (xsRet (xVar 2)))) xsNil) (xsSeq (xsAsg (x2 fMod (x1 fInt (x2 fAdd (x2 fMul (x2 fIdx (xVar 0) (xCon (.int 1))) (xCon (.int 48271))) (xCon (.int 11)))) (xCon (.int 2147483647))) (xgSub (xVar 0) (xCon (.int 1)))) (xsRet (x2 fMod (x1 fInt (x2 fDiv (x2 fIdx (xVar 0) (xCon (.int 1))) (xCon (.int 7)))) (xVar 1)))))
def x__law_take : XF := xFn y__law_take 3 2
theorem okb__law_take : OkS b__law_take y__law_take := (ok_sSeq (ok_sIf (ok_T (ok_2 (ok_2 ok_var ok_con) ok_con)) (ok_sSeq (ok_sAsg (ok_2 (ok_1 (ok_2 ok_var ok_con)) ok_var) ok_gN) (ok_sSeq (ok_sAsg (ok_2 (ok_2 ok_var ok_con) ok_var) (ok_gSub ok_var ok_con)) (ok_sRet ok_var))) ok_sNil) (ok_sSeq (ok_sAsg (ok_2 (ok_1 (ok_2 (ok_2 (ok_2 ok_var ok_con) ok_con) ok_con)) ok_con) (ok_gSub ok_var ok_con)) (ok_sRet (ok_2 (ok_1 (ok_2 (ok_2 ok_var ok_con) ok_con)) ok_var))))
theorem ok__law_take : OkF sp__law_take x__law_take := ok_fn okb__law_take
def y__law_says : XS := (xsRet (xAnd (x1 (fIsT .bl) (xVar 0)) (x2 fEq (xVar 0) (xVar 1))))
def x__law_says : XF := xFn y__law_says 2 2
theorem okb__law_says : OkS b__law_says y__law_says := (ok_sRet (ok_and (ok_1 ok_var) (ok_2 ok_var ok_var)))
theorem ok__law_says : OkF sp__law_says x__law_says := ok_fn okb__law_says
def y__law_is_whole : XS := (xsRet (xAnd (x1 (fIsT .int) (xVar 0)) (xNot (x1 (fIsT .bl) (xVar 0)))))
def x__law_is_whole : XF := xFn y__law_is_whole 1 1
theorem okb__law_is_whole : OkS b__law_is_whole y__law_is_whole := (ok_sRet (ok_and (ok_1 ok_var) (ok_not (ok_1 ok_var))))
theorem ok__law_is_whole : OkF sp__law_is_whole x__law_is_whole := ok_fn okb__law_is_whole
def y__law_same (self : XF) : XS := (xsSeq (xsIf (xT (x1 (fIsT .bl) (xVar 1))) (xsRet (xAnd (x1 (fIsT .bl) (xVar 0)) (x2 fEq (xVar 0) (xVar 1)))) xsNil) (xsSeq (xsIf (xT (x1 (fIsT .tup) (xVar 1))) (xsRet (xAnd (x1 (fIsT .tup) (xVar 0)) (xAnd (x2 fEq (x1 fLen (xVar 0)) (x1 fLen (xVar 1))) (x1 fAll (xF false (xComp [2] (xiRg1 (x1 fLen (xVar 1))) (xgN 2) xbYes (xCall self [] (xCons (x2 fIdx (xVar 0) (xVar 2)) (xCons (x2 fIdx (xVar 1) (xVar 2)) xNil))))))))) xsNil) (xsSeq (xsIf (xT (x1 (fIsT .lst) (xVar 1))) (xsRet (xAnd (x1 (fIsT .lst) (xVar 0)) (xCall self [] (xCons (x1 fTup (xVar 0)) (xCons (x1 fTup (xVar 1)) xNil))))) xsNil) (xsSeq (xsIf (xT (x1 (fIsT .str) (xVar 1))) (xsRet (xAnd (x1 (fIsT .str) (xVar 0)) (x2 fEq (xVar 0) (xVar 1)))) xsNil) (xsSeq (xsIf (xT (x1 (fun d _ => some (.bl (isN d))) (xVar 1))) (xsRet (x1 (fun d _ => some (.bl (isN d))) (xVar 0))) xsNil) (xsRet (xAnd (xCall x__law_is_whole [] (xCons (xVar 0) xNil)) (x2 fEq (xVar 0) (xVar 1)))))))))
def x__law_same : Nat → XF
  | 0 => fun _ _ => .no
  | d + 1 => xFn (y__law_same (x__law_same d)) 3 2
theorem okb__law_same {sp : FSp} {self : XF} (hself : OkF sp self) : OkS (b__law_same sp) (y__law_same self) := (ok_sSeq (ok_sIf (ok_T (ok_1 ok_var)) (ok_sRet (ok_and (ok_1 ok_var) (ok_2 ok_var ok_var))) ok_sNil) (ok_sSeq (ok_sIf (ok_T (ok_1 ok_var)) (ok_sRet (ok_and (ok_1 ok_var) (ok_and (ok_2 (ok_1 ok_var) (ok_1 ok_var)) (ok_1 (ok_lF (ok_comp (ok_iRg1 (ok_1 ok_var)) ok_gN ok_yes (ok_call hself (ok_cons (ok_2 ok_var ok_var) (ok_cons (ok_2 ok_var ok_var) ok_nil))))))))) ok_sNil) (ok_sSeq (ok_sIf (ok_T (ok_1 ok_var)) (ok_sRet (ok_and (ok_1 ok_var) (ok_call hself (ok_cons (ok_1 ok_var) (ok_cons (ok_1 ok_var) ok_nil))))) ok_sNil) (ok_sSeq (ok_sIf (ok_T (ok_1 ok_var)) (ok_sRet (ok_and (ok_1 ok_var) (ok_2 ok_var ok_var))) ok_sNil) (ok_sSeq (ok_sIf (ok_T (ok_1 ok_var)) (ok_sRet (ok_1 ok_var)) ok_sNil) (ok_sRet (ok_and (ok_call ok__law_is_whole (ok_cons ok_var ok_nil)) (ok_2 ok_var ok_var))))))))
theorem ok__law_same : ∀ d, OkF (sp__law_same d) (x__law_same d)
  | 0 => ok_never fun _ _ => rfl
  | d + 1 => ok_fn (okb__law_same (ok__law_same d))
def xtbl : List (Str × XF) := [("faces", x_faces), ("face_of", x_face_of), ("marks", x_marks), ("components", x_components), ("face_row", x_face_row), ("are_told", x_are_told), ("euler", x_euler), ("is_flat", x_is_flat), ("is_on", x_is_on)]
theorem ok_tbl : OkT tbl xtbl := (.cons ok_faces (.cons ok_face_of (.cons ok_marks (.cons ok_components (.cons ok_face_row (.cons ok_are_told (.cons ok_euler (.cons ok_is_flat (.cons ok_is_on .nil)))))))))
def y__law_told : XS := (xsTry N__law_told.length (xsSeq (xsIf (xT (x2 fGt (x1 fLen (xVar 1)) (xCon (.int 3)))) (xsRet (xTup (xCons (xCon (.str "told")) (xCons (xIf (xT (x2 fEq (x1 fLen (xVar 1)) (xCon (.int 4)))) (xCallV xtbl 0 (xCons (x2 fIdx (xVar 1) (xCon (.int 0))) (xCons (x2 fIdx (xVar 1) (xCon (.int 1))) (xCons (x2 fIdx (xVar 1) (xCon (.int 2))) (xCons (x2 fIdx (xVar 1) (xCon (.int 3))) xNil))))) (xCallV xtbl 0 (xCons (x2 fIdx (xVar 1) (xCon (.int 0))) (xCons (x2 fIdx (xVar 1) (xCon (.int 1))) (xCons (x2 fIdx (xVar 1) (xCon (.int 2))) (xCons (x2 fIdx (xVar 1) (xCon (.int 3))) (xCons (x2 fIdx (xVar 1) (xCon (.int 4))) xNil))))))) xNil)))) xsNil) (xsRet (xTup (xCons (xCon (.str "told")) (xCons (xIf (xT (x2 fEq (x1 fLen (xVar 1)) (xCon (.int 1)))) (xCallV xtbl 0 (xCons (x2 fIdx (xVar 1) (xCon (.int 0))) xNil)) (xIf (xT (x2 fEq (x1 fLen (xVar 1)) (xCon (.int 2)))) (xCallV xtbl 0 (xCons (x2 fIdx (xVar 1) (xCon (.int 0))) (xCons (x2 fIdx (xVar 1) (xCon (.int 1))) xNil))) (xCallV xtbl 0 (xCons (x2 fIdx (xVar 1) (xCon (.int 0))) (xCons (x2 fIdx (xVar 1) (xCon (.int 1))) (xCons (x2 fIdx (xVar 1) (xCon (.int 2))) xNil)))))) xNil))))) [⟨"Malformed", none, fun _ => (xsRet (xTup (xCons (xCon (.str "malformed")) (xCons (xCon .non) xNil))))⟩, ⟨"NoText", some 2, fun _ => xsNo⟩, ⟨"Refused", some 3, fun _ => xsNo⟩])
def x__law_told : XF := xFn y__law_told 4 2
theorem okb__law_told : OkS b__law_told y__law_told := (ok_sTry (ok_sSeq (ok_sIf (ok_T (ok_2 (ok_1 ok_var) ok_con)) (ok_sRet (ok_tup (ok_cons ok_con (ok_cons (ok_if (ok_T (ok_2 (ok_1 ok_var) ok_con)) (ok_callV ok_tbl (ok_cons (ok_2 ok_var ok_con) (ok_cons (ok_2 ok_var ok_con) (ok_cons (ok_2 ok_var ok_con) (ok_cons (ok_2 ok_var ok_con) ok_nil))))) (ok_callV ok_tbl (ok_cons (ok_2 ok_var ok_con) (ok_cons (ok_2 ok_var ok_con) (ok_cons (ok_2 ok_var ok_con) (ok_cons (ok_2 ok_var ok_con) (ok_cons (ok_2 ok_var ok_con) ok_nil))))))) ok_nil)))) ok_sNil) (ok_sRet (ok_tup (ok_cons ok_con (ok_cons (ok_if (ok_T (ok_2 (ok_1 ok_var) ok_con)) (ok_callV ok_tbl (ok_cons (ok_2 ok_var ok_con) ok_nil)) (ok_if (ok_T (ok_2 (ok_1 ok_var) ok_con)) (ok_callV ok_tbl (ok_cons (ok_2 ok_var ok_con) (ok_cons (ok_2 ok_var ok_con) ok_nil))) (ok_callV ok_tbl (ok_cons (ok_2 ok_var ok_con) (ok_cons (ok_2 ok_var ok_con) (ok_cons (ok_2 ok_var ok_con) ok_nil)))))) ok_nil))))) (.cons (fun _ => (ok_sRet (ok_tup (ok_cons ok_con (ok_cons ok_con ok_nil))))) (.cons (fun _ => ok_sNo) (.cons (fun _ => ok_sNo) .nil))))
theorem ok__law_told : OkF sp__law_told x__law_told := ok_fn okb__law_told
def y__law_all_malformed : XS := (xsRet (x1 fAll (xF false (xComp [1, 2] (xiOf (xVar 0)) (xgT [(xgN 1), (xgN 2)]) xbYes (x2 fEq (xCall x__law_told [] (xCons (xVar 1) (xCons (xVar 2) xNil))) (xTup (xCons (xCon (.str "malformed")) (xCons (xCon .non) xNil))))))))
def x__law_all_malformed : XF := xFn y__law_all_malformed 3 1
theorem okb__law_all_malformed : OkS b__law_all_malformed y__law_all_malformed := (ok_sRet (ok_1 (ok_lF (ok_comp (ok_iOf ok_var) (ok_gT (.cons ok_gN (.cons ok_gN .nil))) ok_yes (ok_2 (ok_call ok__law_told (ok_cons ok_var (ok_cons ok_var ok_nil))) (ok_tup (ok_cons ok_con (ok_cons ok_con ok_nil))))))))
theorem ok__law_all_malformed : OkF sp__law_all_malformed x__law_all_malformed := ok_fn okb__law_all_malformed
def y__law_pairing : XS := (xsSeq (xsPar 3 4 (xCons (xF true (xlRange (xi1 (xVar 1)))) (xCons (xF true (xlRange (xi1 (xVar 1)))) xNil))) (xsSeq (xsWhile (xT (x2 fGt (x1 fLen (xVar 3)) (xCon (.int 1)))) (xsSeq (xsAsg (xMut fPopAt (xVar 3) (xCons (xCon (.int 0)) xNil)) (xgN 5)) (xsIf (xbOr (xbNot (xT (xVar 2))) (xT (x2 fGt (xCall x__law_take [] (xCons (xVar 0) (xCons (xCon (.int 4)) xNil))) (xCon (.int 0))))) (xsSeq (xsAsg (xMut fPopAt (xVar 3) (xCons (xCall x__law_take [] (xCons (xVar 0) (xCons (x1 fLen (xVar 3)) xNil))) xNil)) (xgN 6)) (xsAsg (xTup (xCons (xVar 6) (xCons (xVar 5) xNil))) (xgT [(xgSub (xVar 4) (xVar 5)), (xgSub (xVar 4) (xVar 6))]))) xsNil))) (xsRet (x1 fTup (xVar 4)))))
def x__law_pairing : XF := xFn y__law_pairing 7 3
theorem okb__law_pairing : OkS b__law_pairing y__law_pairing := (ok_sSeq (ok_sPar (ok_cons (ok_lF (ok_lrange (ok_r1 ok_var))) (ok_cons (ok_lF (ok_lrange (ok_r1 ok_var))) ok_nil))) (ok_sSeq (ok_sWhile (ok_T (ok_2 (ok_1 ok_var) ok_con)) (ok_sSeq (ok_sAsg (ok_mut ok_var (ok_cons ok_con ok_nil)) ok_gN) (ok_sIf (ok_bOr (ok_bNot (ok_T ok_var)) (ok_T (ok_2 (ok_call ok__law_take (ok_cons ok_var (ok_cons ok_con ok_nil))) ok_con))) (ok_sSeq (ok_sAsg (ok_mut ok_var (ok_cons (ok_call ok__law_take (ok_cons ok_var (ok_cons (ok_1 ok_var) ok_nil))) ok_nil)) ok_gN) (ok_sAsg (ok_tup (ok_cons ok_var (ok_cons ok_var ok_nil))) (ok_gT (.cons (ok_gSub ok_var ok_var) (.cons (ok_gSub ok_var ok_var) .nil))))) ok_sNil))) (ok_sRet (ok_1 ok_var))))
theorem ok__law_pairing : OkF sp__law_pairing x__law_pairing := ok_fn okb__law_pairing
def y__law_line : XS := (xsSeq (xsPar 2 3 (xCons (xF true (xDisp (xCons (xVar 1) xNil))) (xCons (xCon (.int 0)) xNil))) (xsSeq (xsWhile (xT (x2 fLt (xVar 3) (x1 fLen (xVar 2)))) (xsSeq (xsFor (xiOf (xVar 0)) (xgN 4) (xsIf (xT (x2 (fIn true) (x2 fIdx (xVar 4) (x2 fIdx (xVar 2) (xVar 3))) (xVar 2))) (xsExpr (xMut fApp (xVar 2) (xCons (x2 fIdx (xVar 4) (x2 fIdx (xVar 2) (xVar 3))) xNil))) xsNil)) (xsAsg (x2 fAdd (xVar 3) (xCon (.int 1))) (xgN 3)))) (xsRet (xVar 2))))
def x__law_line : XF := xFn y__law_line 5 2
theorem okb__law_line : OkS b__law_line y__law_line := (ok_sSeq (ok_sPar (ok_cons (ok_lF (ok_disp (ok_cons ok_var ok_nil))) (ok_cons ok_con ok_nil))) (ok_sSeq (ok_sWhile (ok_T (ok_2 ok_var (ok_1 ok_var))) (ok_sSeq (ok_sFor (ok_iOf ok_var) ok_gN (ok_sIf (ok_T (ok_2 (ok_2 ok_var (ok_2 ok_var ok_var)) ok_var)) (ok_sExpr (ok_mut ok_var (ok_cons (ok_2 ok_var (ok_2 ok_var ok_var)) ok_nil))) ok_sNil)) (ok_sAsg (ok_2 ok_var ok_con) ok_gN))) (ok_sRet ok_var)))
theorem ok__law_line : OkF sp__law_line x__law_line := ok_fn okb__law_line
def y__law_form : XS := (xsSeq (xsAsg (xCall x__law_line [] (xCons (xVar 0) (xCons (xVar 1) xNil))) (xgN 2)) (xsSeq (xsAsg (x1 fDOf (xF false (xComp [4, 5] (xiEnL (xVar 2)) (xgT [(xgN 4), (xgN 5)]) xbYes (xTup (xCons (xVar 5) (xCons (xVar 4) xNil)))))) (xgN 3)) (xsRet (x1 fTup (xF false (xComp [6] (xiOf (xVar 0)) (xgN 6) xbYes (x1 fTup (xF false (xComp [5] (xiOf (xVar 2)) (xgN 5) xbYes (x2 fDGet (xVar 3) (x2 fIdx (xVar 6) (xVar 5))))))))))))
def x__law_form : XF := xFn y__law_form 7 2
theorem okb__law_form : OkS b__law_form y__law_form := (ok_sSeq (ok_sAsg (ok_call ok__law_line (ok_cons ok_var (ok_cons ok_var ok_nil))) ok_gN) (ok_sSeq (ok_sAsg (ok_1 (ok_lF (ok_comp (ok_iEnL ok_var) (ok_gT (.cons ok_gN (.cons ok_gN .nil))) ok_yes (ok_tup (ok_cons ok_var (ok_cons ok_var ok_nil)))))) ok_gN) (ok_sRet (ok_1 (ok_lF (ok_comp (ok_iOf ok_var) ok_gN ok_yes (ok_1 (ok_lF (ok_comp (ok_iOf ok_var) ok_gN ok_yes (ok_2 ok_var (ok_2 ok_var ok_var)))))))))))
theorem ok__law_form : OkF sp__law_form x__law_form := ok_fn okb__law_form
def y__law_map : XS := (xsSeq (xsPar3 2 3 4 (xCons (x2 fAdd (xCon (.int 1)) (xCall x__law_take [] (xCons (xVar 0) (xCons (xCon (.int 4)) xNil)))) (xCons (xF false (xDisp xNil)) (xCons (xF false (xDisp xNil)) xNil)))) (xsSeq (xsFor (xiRg1 (xVar 2)) (xgN 5) (xsSeq (xsAsg (xF false (xl2 fCatL (xVar 3) (xF false (xDisp (xCons (x2 fAdd (x2 fMul (xCon (.int 4)) (xVar 5)) (xCon (.int 1))) (xCons (x2 fMul (xCon (.int 4)) (xVar 5)) (xCons (x2 fAdd (x2 fMul (xCon (.int 4)) (xVar 5)) (xCon (.int 3))) (xCons (x2 fAdd (x2 fMul (xCon (.int 4)) (xVar 5)) (xCon (.int 2))) xNil)))))))) (xgN 3)) (xsAsg (xF false (xl2 fCatL (xVar 4) (xF false (xDisp (xCons (x2 fAdd (x2 fMul (xCon (.int 4)) (xVar 5)) (xCon (.int 2))) (xCons (x2 fAdd (x2 fMul (xCon (.int 4)) (xVar 5)) (xCon (.int 3))) (xCons (x2 fMul (xCon (.int 4)) (xVar 5)) (xCons (x2 fAdd (x2 fMul (xCon (.int 4)) (xVar 5)) (xCon (.int 1))) xNil)))))))) (xgN 4)))) (xsRet (xCall x__law_form [] (xCons (xTup (xCons (x1 fTup (xVar 3)) (xCons (xCall x__law_pairing [] (xCons (xVar 0) (xCons (x2 fMul (xCon (.int 4)) (xVar 2)) (xCons (xVar 1) xNil)))) (xCons (x1 fTup (xVar 4)) xNil)))) (xCons (xCon (.int 0)) xNil))))))
def x__law_map : XF := xFn y__law_map 6 2
theorem okb__law_map : OkS b__law_map y__law_map := (ok_sSeq (ok_sPar3 (ok_cons (ok_2 ok_con (ok_call ok__law_take (ok_cons ok_var (ok_cons ok_con ok_nil)))) (ok_cons (ok_lF (ok_disp ok_nil)) (ok_cons (ok_lF (ok_disp ok_nil)) ok_nil)))) (ok_sSeq (ok_sFor (ok_iRg1 ok_var) ok_gN (ok_sSeq (ok_sAsg (ok_lF (ok_l2 ok_var (ok_lF (ok_disp (ok_cons (ok_2 (ok_2 ok_con ok_var) ok_con) (ok_cons (ok_2 ok_con ok_var) (ok_cons (ok_2 (ok_2 ok_con ok_var) ok_con) (ok_cons (ok_2 (ok_2 ok_con ok_var) ok_con) ok_nil)))))))) ok_gN) (ok_sAsg (ok_lF (ok_l2 ok_var (ok_lF (ok_disp (ok_cons (ok_2 (ok_2 ok_con ok_var) ok_con) (ok_cons (ok_2 (ok_2 ok_con ok_var) ok_con) (ok_cons (ok_2 ok_con ok_var) (ok_cons (ok_2 (ok_2 ok_con ok_var) ok_con) ok_nil)))))))) ok_gN))) (ok_sRet (ok_call ok__law_form (ok_cons (ok_tup (ok_cons (ok_1 ok_var) (ok_cons (ok_call ok__law_pairing (ok_cons ok_var (ok_cons (ok_2 ok_con ok_var) (ok_cons ok_var ok_nil)))) (ok_cons (ok_1 ok_var) ok_nil)))) (ok_cons ok_con ok_nil))))))
theorem ok__law_map : OkF sp__law_map x__law_map := ok_fn okb__law_map
def y__law_simplex : XS := (xsSeq (xsAsg (xF false (xDisp (xCons (xTup xNil) xNil))) (xgN 1)) (xsSeq (xsFor (xiRg1 (x2 fAdd (xVar 0) (xCon (.int 1)))) (xgN 2) (xsSeq (xsAsg (xF false (xDisp xNil)) (xgN 3)) (xsSeq (xsFor (xiOf (xVar 1)) (xgN 4) (xsAsg (xF false (xl2 fCatL (xVar 3) (xF false (xComp [6] (xiRg1 (x2 fAdd (xVar 0) (xCon (.int 1)))) (xgN 6) (xT (x2 (fIn true) (xVar 6) (xVar 4))) (x2 fAdd (xVar 4) (xTup (xCons (xVar 6) xNil))))))) (xgN 3))) (xsAsg (xVar 3) (xgN 1))))) (xsSeq (xsAsg (x1 fDOf (xF false (xComp [6, 4] (xiEnL (xVar 1)) (xgT [(xgN 6), (xgN 4)]) xbYes (xTup (xCons (xVar 4) (xCons (xVar 6) xNil)))))) (xgN 5)) (xsRet (x1 fTup (xF false (xComp [7] (xiRg1 (xVar 0)) (xgN 7) xbYes (x1 fTup (xF false (xComp [4] (xiOf (xVar 1)) (xgN 4) xbYes (x2 fDGet (xVar 5) (x2 fAdd (x2 fAdd (xCut (xVar 4) xoNo (xoAt (xVar 7))) (xTup (xCons (x2 fIdx (xVar 4) (x2 fAdd (xVar 7) (xCon (.int 1)))) (xCons (x2 fIdx (xVar 4) (xVar 7)) xNil)))) (xCut (xVar 4) (xoAt (x2 fAdd (xVar 7) (xCon (.int 2)))) xoNo)))))))))))))
def x__law_simplex : XF := xFn y__law_simplex 8 1
theorem okb__law_simplex : OkS b__law_simplex y__law_simplex := (ok_sSeq (ok_sAsg (ok_lF (ok_disp (ok_cons (ok_tup ok_nil) ok_nil))) ok_gN) (ok_sSeq (ok_sFor (ok_iRg1 (ok_2 ok_var ok_con)) ok_gN (ok_sSeq (ok_sAsg (ok_lF (ok_disp ok_nil)) ok_gN) (ok_sSeq (ok_sFor (ok_iOf ok_var) ok_gN (ok_sAsg (ok_lF (ok_l2 ok_var (ok_lF (ok_comp (ok_iRg1 (ok_2 ok_var ok_con)) ok_gN (ok_T (ok_2 ok_var ok_var)) (ok_2 ok_var (ok_tup (ok_cons ok_var ok_nil))))))) ok_gN)) (ok_sAsg ok_var ok_gN)))) (ok_sSeq (ok_sAsg (ok_1 (ok_lF (ok_comp (ok_iEnL ok_var) (ok_gT (.cons ok_gN (.cons ok_gN .nil))) ok_yes (ok_tup (ok_cons ok_var (ok_cons ok_var ok_nil)))))) ok_gN) (ok_sRet (ok_1 (ok_lF (ok_comp (ok_iRg1 ok_var) ok_gN ok_yes (ok_1 (ok_lF (ok_comp (ok_iOf ok_var) ok_gN ok_yes (ok_2 ok_var (ok_2 (ok_2 (ok_cut ok_var ok_oNo (ok_oAt ok_var)) (ok_tup (ok_cons (ok_2 ok_var (ok_2 ok_var ok_con)) (ok_cons (ok_2 ok_var ok_var) ok_nil)))) (ok_cut ok_var (ok_oAt (ok_2 ok_var ok_con)) ok_oNo)))))))))))))
theorem ok__law_simplex : OkF sp__law_simplex x__law_simplex := ok_fn okb__law_simplex
def y__law_flips : XS := (xsSeq (xsAsg (xCall x__law_take [] (xCons (xVar 0) (xCons (xCon (.int 8)) xNil))) (xgN 1)) (xsSeq (xsIf (xT (x2 fEq (xVar 1) (xCon (.int 0)))) (xsSeq (xsAsg (x2 fAdd (xCon (.int 1)) (xCall x__law_take [] (xCons (xVar 0) (xCons (xCon (.int 7)) xNil)))) (xgN 2)) (xsSeq (xsAsg (xF false (xComp [6] (xiRg1 (x2 fMul (xCon (.int 2)) (xVar 2))) (xgN 6) xbYes (xIf (xT (x2 fEq (x2 fMod (x1 fInt (xVar 6)) (xCon (.int 2))) (xCon (.int 0)))) (x2 fAdd (xVar 6) (xCon (.int 1))) (x2 fSub (xVar 6) (xCon (.int 1)))))) (xgN 3)) (xsRet (xCall x__law_form [] (xCons (xTup (xCons (x1 fTup (xVar 3)) (xCons (x1 fTup (xF false (xComp [6] (xiRg1 (x2 fMul (xCon (.int 2)) (xVar 2))) (xgN 6) xbYes (xIf (xT (x2 fEq (x2 fMod (x1 fInt (xVar 6)) (xCon (.int 2))) (xCon (.int 0)))) (x2 fMod (x1 fInt (x2 fSub (xVar 6) (xCon (.int 1)))) (x2 fMul (xCon (.int 2)) (xVar 2))) (x2 fMod (x1 fInt (x2 fAdd (xVar 6) (xCon (.int 1)))) (x2 fMul (xCon (.int 2)) (xVar 2))))))) xNil))) (xCons (xCon (.int 0)) xNil)))))) xsNil) (xsSeq (xsIf (xT (x2 fLt (xVar 1) (xCon (.int 3)))) (xsRet (xCall x__law_map [] (xCons (xVar 0) (xCons (xCon (.bl false)) xNil)))) xsNil) (xsSeq (xsIf (xT (x2 fEq (xVar 1) (xCon (.int 3)))) (xsRet (xCall x__law_map [] (xCons (xVar 0) (xCons (xCon (.bl true)) xNil)))) xsNil) (xsSeq (xsIf (xT (x2 fEq (xVar 1) (xCon (.int 4)))) (xsSeq (xsAsg (xCall x__law_map [] (xCons (xVar 0) (xCons (xCon (.bl false)) xNil))) (xgN 4)) (xsSeq (xsAsg (x1 fLen (x2 fIdx (xVar 4) (xCon (.int 0)))) (xgN 5)) (xsRet (x2 fAdd (x1 fTup (xF false (xComp [7] (xiOf (xVar 4)) (xgN 7) xbYes (x2 fAdd (xVar 7) (x1 fTup (xF false (xComp [6] (xiOf (xVar 7)) (xgN 6) xbYes (x2 fAdd (xVar 6) (xVar 5))))))))) (xTup (xCons (x1 fTup (xF false (xComp [6] (xiRg1 (x2 fMul (xCon (.int 2)) (xVar 5))) (xgN 6) xbYes (x2 fMod (x1 fInt (x2 fAdd (xVar 6) (xVar 5))) (x2 fMul (xCon (.int 2)) (xVar 5)))))) xNil)))))) xsNil) (xsSeq (xsIf (xT (x2 fEq (xVar 1) (xCon (.int 5)))) (xsSeq (xsAsg (x2 fAdd (xCon (.int 2)) (xCall x__law_take [] (xCons (xVar 0) (xCons (xCon (.int 7)) xNil)))) (xgN 5)) (xsRet (xCall x__law_form [] (xCons (xTup (xCons (xCall x__law_pairing [] (xCons (xVar 0) (xCons (xVar 5) (xCons (xCon (.bl true)) xNil)))) (xCons (xCall x__law_pairing [] (xCons (xVar 0) (xCons (xVar 5) (xCons (xCon (.bl true)) xNil)))) xNil))) (xCons (xCon (.int 0)) xNil))))) xsNil) (xsSeq (xsIf (xT (x2 fEq (xVar 1) (xCon (.int 6)))) (xsRet (xCall x__law_simplex [] (xCons (xIf (xT (x2 fGt (xCall x__law_take [] (xCons (xVar 0) (xCons (xCon (.int 3)) xNil))) (xCon (.int 0)))) (xCon (.int 3)) (xCon (.int 2))) xNil))) xsNil) (xsRet (xIf (xT (x2 fGt (xCall x__law_take [] (xCons (xVar 0) (xCons (xCon (.int 3)) xNil))) (xCon (.int 0)))) (xTup (xCons (xTup (xCons (xCon (.int 1)) (xCons (xCon (.int 0)) xNil))) xNil)) (x2 fMul (xTup (xCons (xTup (xCons (xCon (.int 0)) xNil)) xNil)) (x2 fAdd (xCon (.int 1)) (xCall x__law_take [] (xCons (xVar 0) (xCons (xCon (.int 3)) xNil))))))))))))))
def x__law_flips : XF := xFn y__law_flips 8 1
theorem okb__law_flips : OkS b__law_flips y__law_flips := (ok_sSeq (ok_sAsg (ok_call ok__law_take (ok_cons ok_var (ok_cons ok_con ok_nil))) ok_gN) (ok_sSeq (ok_sIf (ok_T (ok_2 ok_var ok_con)) (ok_sSeq (ok_sAsg (ok_2 ok_con (ok_call ok__law_take (ok_cons ok_var (ok_cons ok_con ok_nil)))) ok_gN) (ok_sSeq (ok_sAsg (ok_lF (ok_comp (ok_iRg1 (ok_2 ok_con ok_var)) ok_gN ok_yes (ok_if (ok_T (ok_2 (ok_2 (ok_1 ok_var) ok_con) ok_con)) (ok_2 ok_var ok_con) (ok_2 ok_var ok_con)))) ok_gN) (ok_sRet (ok_call ok__law_form (ok_cons (ok_tup (ok_cons (ok_1 ok_var) (ok_cons (ok_1 (ok_lF (ok_comp (ok_iRg1 (ok_2 ok_con ok_var)) ok_gN ok_yes (ok_if (ok_T (ok_2 (ok_2 (ok_1 ok_var) ok_con) ok_con)) (ok_2 (ok_1 (ok_2 ok_var ok_con)) (ok_2 ok_con ok_var)) (ok_2 (ok_1 (ok_2 ok_var ok_con)) (ok_2 ok_con ok_var)))))) ok_nil))) (ok_cons ok_con ok_nil)))))) ok_sNil) (ok_sSeq (ok_sIf (ok_T (ok_2 ok_var ok_con)) (ok_sRet (ok_call ok__law_map (ok_cons ok_var (ok_cons ok_con ok_nil)))) ok_sNil) (ok_sSeq (ok_sIf (ok_T (ok_2 ok_var ok_con)) (ok_sRet (ok_call ok__law_map (ok_cons ok_var (ok_cons ok_con ok_nil)))) ok_sNil) (ok_sSeq (ok_sIf (ok_T (ok_2 ok_var ok_con)) (ok_sSeq (ok_sAsg (ok_call ok__law_map (ok_cons ok_var (ok_cons ok_con ok_nil))) ok_gN) (ok_sSeq (ok_sAsg (ok_1 (ok_2 ok_var ok_con)) ok_gN) (ok_sRet (ok_2 (ok_1 (ok_lF (ok_comp (ok_iOf ok_var) ok_gN ok_yes (ok_2 ok_var (ok_1 (ok_lF (ok_comp (ok_iOf ok_var) ok_gN ok_yes (ok_2 ok_var ok_var)))))))) (ok_tup (ok_cons (ok_1 (ok_lF (ok_comp (ok_iRg1 (ok_2 ok_con ok_var)) ok_gN ok_yes (ok_2 (ok_1 (ok_2 ok_var ok_var)) (ok_2 ok_con ok_var))))) ok_nil)))))) ok_sNil) (ok_sSeq (ok_sIf (ok_T (ok_2 ok_var ok_con)) (ok_sSeq (ok_sAsg (ok_2 ok_con (ok_call ok__law_take (ok_cons ok_var (ok_cons ok_con ok_nil)))) ok_gN) (ok_sRet (ok_call ok__law_form (ok_cons (ok_tup (ok_cons (ok_call ok__law_pairing (ok_cons ok_var (ok_cons ok_var (ok_cons ok_con ok_nil)))) (ok_cons (ok_call ok__law_pairing (ok_cons ok_var (ok_cons ok_var (ok_cons ok_con ok_nil)))) ok_nil))) (ok_cons ok_con ok_nil))))) ok_sNil) (ok_sSeq (ok_sIf (ok_T (ok_2 ok_var ok_con)) (ok_sRet (ok_call ok__law_simplex (ok_cons (ok_if (ok_T (ok_2 (ok_call ok__law_take (ok_cons ok_var (ok_cons ok_con ok_nil))) ok_con)) ok_con ok_con) ok_nil))) ok_sNil) (ok_sRet (ok_if (ok_T (ok_2 (ok_call ok__law_take (ok_cons ok_var (ok_cons ok_con ok_nil))) ok_con)) (ok_tup (ok_cons (ok_tup (ok_cons ok_con (ok_cons ok_con ok_nil))) ok_nil)) (ok_2 (ok_tup (ok_cons (ok_tup (ok_cons ok_con ok_nil)) ok_nil)) (ok_2 ok_con (ok_call ok__law_take (ok_cons ok_var (ok_cons ok_con ok_nil))))))))))))))
theorem ok__law_flips : OkF sp__law_flips x__law_flips := ok_fn okb__law_flips
def y__law_lots : XS := (xsSeq (xsPar 3 4 (xCons (xF true (xl2 fRepL (xF false (xDisp (xCons (xCon (.bl false)) xNil))) (xVar 2))) (xCons (xF true (xDisp xNil)) xNil))) (xsSeq (xsFor (xiRg1 (xVar 2)) (xgN 5) (xsIf (xbNot (xT (x2 fIdx (xVar 3) (xVar 5)))) (xsSeq (xsAsg (xF false (xl1 fSrtF (xCall x__law_line [] (xCons (xF false (xComp [8] (xiOf (xVar 1)) (xgN 8) xbYes (x2 fIdx (xVar 0) (xVar 8)))) (xCons (xVar 5) xNil))))) (xgN 6)) (xsSeq (xsFor (xiOf (xVar 6)) (xgN 7) (xsAsg (xCon (.bl true)) (xgSub (xVar 3) (xVar 7)))) (xsExpr (xMut fApp (xVar 4) (xCons (x1 fTup (xVar 6)) xNil))))) xsNil)) (xsRet (x1 fTup (xVar 4)))))
def x__law_lots : XF := xFn y__law_lots 9 3
theorem okb__law_lots : OkS b__law_lots y__law_lots := (ok_sSeq (ok_sPar (ok_cons (ok_lF (ok_l2 (ok_lF (ok_disp (ok_cons ok_con ok_nil))) ok_var)) (ok_cons (ok_lF (ok_disp ok_nil)) ok_nil))) (ok_sSeq (ok_sFor (ok_iRg1 ok_var) ok_gN (ok_sIf (ok_bNot (ok_T (ok_2 ok_var ok_var))) (ok_sSeq (ok_sAsg (ok_lF (ok_srt (ok_call ok__law_line (ok_cons (ok_lF (ok_comp (ok_iOf ok_var) ok_gN ok_yes (ok_2 ok_var ok_var))) (ok_cons ok_var ok_nil))))) ok_gN) (ok_sSeq (ok_sFor (ok_iOf ok_var) ok_gN (ok_sAsg ok_con (ok_gSub ok_var ok_var))) (ok_sExpr (ok_mut ok_var (ok_cons (ok_1 ok_var) ok_nil))))) ok_sNil)) (ok_sRet (ok_1 ok_var))))
theorem ok__law_lots : OkF sp__law_lots x__law_lots := ok_fn okb__law_lots
def y__law_choose : XS := (xsSeq (xsAsg (xCon (.int 1)) (xgN 2)) (xsSeq (xsFor (xiRg1 (xVar 1)) (xgN 3) (xsAsg (x2 fDiv (x2 fMul (xVar 2) (x2 fSub (xVar 0) (xVar 3))) (x2 fAdd (xVar 3) (xCon (.int 1)))) (xgN 2))) (xsRet (xVar 2))))
def x__law_choose : XF := xFn y__law_choose 4 2
theorem okb__law_choose : OkS b__law_choose y__law_choose := (ok_sSeq (ok_sAsg ok_con ok_gN) (ok_sSeq (ok_sFor (ok_iRg1 ok_var) ok_gN (ok_sAsg (ok_2 (ok_2 ok_var (ok_2 ok_var ok_var)) (ok_2 ok_var ok_con)) ok_gN)) (ok_sRet ok_var)))
theorem ok__law_choose : OkF sp__law_choose x__law_choose := ok_fn okb__law_choose
def y__law_net_holds : XS := (xsSeq (xsAsg (xCall x__law_flips [] (xCons (xVar 0) xNil)) (xgN 1)) (xsSeq (xsAsg (xTup (xCons (x1 fLen (xVar 1)) (xCons (x1 fLen (x2 fIdx (xVar 1) (xCon (.int 0)))) xNil))) (xgT [(xgN 2), (xgN 3)])) (xsSeq (xsAsg (xTup (xCons (xMake "Net" x_Net_init [] (xCons (xVar 1) xNil)) (xCons (x1 fTup (xF false (xComp [10] (xiRg1 (xVar 2)) (xgN 10) (xT (x2 fEq (xCall x__law_take [] (xCons (xVar 0) (xCons (xCon (.int 2)) xNil))) (xCon (.int 0)))) (xVar 10)))) xNil))) (xgT [(xgN 4), (xgN 5)])) (xsSeq (xsIf (xbNot (xT (xCall (x__law_same 4) [] (xCons (xCall x_components [] (xCons (xVar 4) (xCons (xVar 5) xNil))) (xCons (xCall x__law_lots [] (xCons (xVar 1) (xCons (xVar 5) (xCons (xVar 3) xNil)))) xNil))))) (xsRet (xCon (.bl false))) xsNil) (xsSeq (xsAsg (xF false (xComp [10] (xiRg1 (xVar 2)) (xgN 10) xbYes (xCall x__law_lots [] (xCons (xVar 1) (xCons (xF false (xComp [11] (xiRg1 (xVar 2)) (xgN 11) (xT (x2 fNe (xVar 11) (xVar 10))) (xVar 11))) (xCons (xVar 3) xNil)))))) (xgN 6)) (xsSeq (xsAsg (xF false (xComp [15] (xiOf (xVar 6)) (xgN 15) xbYes (xF false (xComp [9] (xiRg1 (xVar 3)) (xgN 9) xbYes (x2 fIdx (xF false (xComp [16, 17] (xiEnTu (xVar 15)) (xgT [(xgN 16), (xgN 17)]) (xT (x2 (fIn false) (xVar 9) (xVar 17))) (xVar 16))) (xCon (.int 0))))))) (xgN 7)) (xsSeq (xsIf (xbOr (xT (x2 fNe (xF false (xComp [10] (xiRg1 (xVar 2)) (xgN 10) xbYes (xCall x_faces [] (xCons (xVar 4) (xCons (xVar 10) xNil))))) (xVar 6))) (xbNot (xT (xCall (x__law_same 4) [] (xCons (xCall x_face_row [] (xCons (xVar 4) xNil)) (xCons (x1 fTup (xF false (xComp [15] (xiOf (xVar 6)) (xgN 15) xbYes (x1 fLen (xVar 15))))) xNil)))))) (xsRet (xCon (.bl false))) xsNil) (xsSeq (xsIf (xbNot (xT (xCall (x__law_same 4) [] (xCons (xCall x_euler [] (xCons (xVar 4) xNil)) (xCons (x1 fSum (xF false (xComp [10, 15] (xiEnL (xVar 6)) (xgT [(xgN 10), (xgN 15)]) xbYes (x2 fMul (x1 fLen (xVar 15)) (x2 fSub (xCon (.int 1)) (x2 fMul (xCon (.int 2)) (x2 fMod (x1 fInt (xVar 10)) (xCon (.int 2))))))))) xNil))))) (xsRet (xCon (.bl false))) xsNil) (xsSeq (xsAsg (xF false (xComp [9] (xiRg1 (xVar 3)) (xgN 9) xbYes (x1 fTup (xF false (xComp [10] (xiRg1 (xVar 2)) (xgN 10) xbYes (x2 fIdx (x2 fIdx (xVar 7) (xVar 10)) (xVar 9))))))) (xgN 8)) (xsSeq (xsAsg (xCall x__law_take [] (xCons (xVar 0) (xCons (xVar 3) xNil))) (xgN 9)) (xsSeq (xsIf (xbOr (xbNot (xT (xCall (x__law_same 4) [] (xCons (xCall x_marks [] (xCons (xVar 4) (xCons (xVar 9) xNil))) (xCons (x2 fIdx (xVar 8) (xVar 9)) xNil))))) (xbOr (xbNot (xT (x1 fAll (xF false (xComp [10] (xiRg1 (xVar 2)) (xgN 10) xbYes (xCall (x__law_same 4) [] (xCons (xCall x_face_of [] (xCons (xVar 4) (xCons (xVar 10) (xCons (xVar 9) xNil)))) (xCons (x2 fIdx (x2 fIdx (xVar 8) (xVar 9)) (xVar 10)) xNil)))))))) (xbNot (xT (xCall x__law_says [] (xCons (xCall x_are_told [] (xCons (xVar 4) xNil)) (xCons (x2 fEq (x1 fLenSet (xVar 8)) (xVar 3)) xNil))))))) (xsRet (xCon (.bl false))) xsNil) (xsSeq (xsIf (xT (x2 fLt (xVar 2) (xCon (.int 2)))) (xsRet (xCon (.bl true))) xsNil) (xsSeq (xsAsg (xCall x__law_take [] (xCons (xVar 0) (xCons (x2 fSub (xVar 2) (xCon (.int 1))) xNil))) (xgN 10)) (xsSeq (xsAsg (x2 fAdd (x2 fAdd (xVar 10) (xCon (.int 1))) (xCall x__law_take [] (xCons (xVar 0) (xCons (x2 fSub (x2 fSub (xVar 2) (xCon (.int 1))) (xVar 10)) xNil)))) (xgN 11)) (xsSeq (xsAsg (xTup (xCons (xCall x__law_take [] (xCons (xVar 0) (xCons (x1 fLen (x2 fIdx (xVar 6) (xVar 10))) xNil))) (xCons (xCall x__law_take [] (xCons (xVar 0) (xCons (x1 fLen (x2 fIdx (xVar 6) (xVar 11))) xNil))) xNil))) (xgT [(xgN 12), (xgN 13)])) (xsSeq (xsAsg (x1 fAny (xF false (xComp [18] (xiOf (xVar 8)) (xgN 18) xbYes (xAnd (x2 fEq (x2 fIdx (xVar 18) (xVar 10)) (xVar 12)) (x2 fEq (x2 fIdx (xVar 18) (xVar 11)) (xVar 13)))))) (xgN 14)) (xsSeq (xsIf (xbOr (xbNot (xT (xCall x__law_says [] (xCons (xCall x_is_on [] (xCons (xVar 4) (xCons (xVar 10) (xCons (xVar 12) (xCons (xVar 11) (xCons (xVar 13) xNil)))))) (xCons (xVar 14) xNil))))) (xbNot (xT (xCall x__law_says [] (xCons (xCall x_is_on [] (xCons (xVar 4) (xCons (xVar 11) (xCons (xVar 13) (xCons (xVar 10) (xCons (xVar 12) xNil)))))) (xCons (xVar 14) xNil)))))) (xsRet (xCon (.bl false))) xsNil) (xsRet (xCall x__law_says [] (xCons (xCall x_is_flat [] (xCons (xVar 4) (xCons (xVar 10) (xCons (xVar 11) xNil)))) (xCons (x2 fEq (x1 fLenSet (xF false (xComp [18] (xiOf (xVar 8)) (xgN 18) xbYes (xTup (xCons (x2 fIdx (xVar 18) (xVar 10)) (xCons (x2 fIdx (xVar 18) (xVar 11)) xNil)))))) (x2 fMul (x1 fLen (x2 fIdx (xVar 6) (xVar 10))) (x1 fLen (x2 fIdx (xVar 6) (xVar 11))))) xNil)))))))))))))))))))))
def x__law_net_holds : XF := xFn y__law_net_holds 19 1
theorem okb__law_net_holds : OkS b__law_net_holds y__law_net_holds := (ok_sSeq (ok_sAsg (ok_call ok__law_flips (ok_cons ok_var ok_nil)) ok_gN) (ok_sSeq (ok_sAsg (ok_tup (ok_cons (ok_1 ok_var) (ok_cons (ok_1 (ok_2 ok_var ok_con)) ok_nil))) (ok_gT (.cons ok_gN (.cons ok_gN .nil)))) (ok_sSeq (ok_sAsg (ok_tup (ok_cons (ok_make ok_Net_init (ok_cons ok_var ok_nil)) (ok_cons (ok_1 (ok_lF (ok_comp (ok_iRg1 ok_var) ok_gN (ok_T (ok_2 (ok_call ok__law_take (ok_cons ok_var (ok_cons ok_con ok_nil))) ok_con)) ok_var))) ok_nil))) (ok_gT (.cons ok_gN (.cons ok_gN .nil)))) (ok_sSeq (ok_sIf (ok_bNot (ok_T (ok_call (ok__law_same 4) (ok_cons (ok_call ok_components (ok_cons ok_var (ok_cons ok_var ok_nil))) (ok_cons (ok_call ok__law_lots (ok_cons ok_var (ok_cons ok_var (ok_cons ok_var ok_nil)))) ok_nil))))) (ok_sRet ok_con) ok_sNil) (ok_sSeq (ok_sAsg (ok_lF (ok_comp (ok_iRg1 ok_var) ok_gN ok_yes (ok_call ok__law_lots (ok_cons ok_var (ok_cons (ok_lF (ok_comp (ok_iRg1 ok_var) ok_gN (ok_T (ok_2 ok_var ok_var)) ok_var)) (ok_cons ok_var ok_nil)))))) ok_gN) (ok_sSeq (ok_sAsg (ok_lF (ok_comp (ok_iOf ok_var) ok_gN ok_yes (ok_lF (ok_comp (ok_iRg1 ok_var) ok_gN ok_yes (ok_2 (ok_lF (ok_comp (ok_iEnTu ok_var) (ok_gT (.cons ok_gN (.cons ok_gN .nil))) (ok_T (ok_2 ok_var ok_var)) ok_var)) ok_con))))) ok_gN) (ok_sSeq (ok_sIf (ok_bOr (ok_T (ok_2 (ok_lF (ok_comp (ok_iRg1 ok_var) ok_gN ok_yes (ok_call ok_faces (ok_cons ok_var (ok_cons ok_var ok_nil))))) ok_var)) (ok_bNot (ok_T (ok_call (ok__law_same 4) (ok_cons (ok_call ok_face_row (ok_cons ok_var ok_nil)) (ok_cons (ok_1 (ok_lF (ok_comp (ok_iOf ok_var) ok_gN ok_yes (ok_1 ok_var)))) ok_nil)))))) (ok_sRet ok_con) ok_sNil) (ok_sSeq (ok_sIf (ok_bNot (ok_T (ok_call (ok__law_same 4) (ok_cons (ok_call ok_euler (ok_cons ok_var ok_nil)) (ok_cons (ok_1 (ok_lF (ok_comp (ok_iEnL ok_var) (ok_gT (.cons ok_gN (.cons ok_gN .nil))) ok_yes (ok_2 (ok_1 ok_var) (ok_2 ok_con (ok_2 ok_con (ok_2 (ok_1 ok_var) ok_con))))))) ok_nil))))) (ok_sRet ok_con) ok_sNil) (ok_sSeq (ok_sAsg (ok_lF (ok_comp (ok_iRg1 ok_var) ok_gN ok_yes (ok_1 (ok_lF (ok_comp (ok_iRg1 ok_var) ok_gN ok_yes (ok_2 (ok_2 ok_var ok_var) ok_var)))))) ok_gN) (ok_sSeq (ok_sAsg (ok_call ok__law_take (ok_cons ok_var (ok_cons ok_var ok_nil))) ok_gN) (ok_sSeq (ok_sIf (ok_bOr (ok_bNot (ok_T (ok_call (ok__law_same 4) (ok_cons (ok_call ok_marks (ok_cons ok_var (ok_cons ok_var ok_nil))) (ok_cons (ok_2 ok_var ok_var) ok_nil))))) (ok_bOr (ok_bNot (ok_T (ok_1 (ok_lF (ok_comp (ok_iRg1 ok_var) ok_gN ok_yes (ok_call (ok__law_same 4) (ok_cons (ok_call ok_face_of (ok_cons ok_var (ok_cons ok_var (ok_cons ok_var ok_nil)))) (ok_cons (ok_2 (ok_2 ok_var ok_var) ok_var) ok_nil)))))))) (ok_bNot (ok_T (ok_call ok__law_says (ok_cons (ok_call ok_are_told (ok_cons ok_var ok_nil)) (ok_cons (ok_2 (ok_1 ok_var) ok_var) ok_nil))))))) (ok_sRet ok_con) ok_sNil) (ok_sSeq (ok_sIf (ok_T (ok_2 ok_var ok_con)) (ok_sRet ok_con) ok_sNil) (ok_sSeq (ok_sAsg (ok_call ok__law_take (ok_cons ok_var (ok_cons (ok_2 ok_var ok_con) ok_nil))) ok_gN) (ok_sSeq (ok_sAsg (ok_2 (ok_2 ok_var ok_con) (ok_call ok__law_take (ok_cons ok_var (ok_cons (ok_2 (ok_2 ok_var ok_con) ok_var) ok_nil)))) ok_gN) (ok_sSeq (ok_sAsg (ok_tup (ok_cons (ok_call ok__law_take (ok_cons ok_var (ok_cons (ok_1 (ok_2 ok_var ok_var)) ok_nil))) (ok_cons (ok_call ok__law_take (ok_cons ok_var (ok_cons (ok_1 (ok_2 ok_var ok_var)) ok_nil))) ok_nil))) (ok_gT (.cons ok_gN (.cons ok_gN .nil)))) (ok_sSeq (ok_sAsg (ok_1 (ok_lF (ok_comp (ok_iOf ok_var) ok_gN ok_yes (ok_and (ok_2 (ok_2 ok_var ok_var) ok_var) (ok_2 (ok_2 ok_var ok_var) ok_var))))) ok_gN) (ok_sSeq (ok_sIf (ok_bOr (ok_bNot (ok_T (ok_call ok__law_says (ok_cons (ok_call ok_is_on (ok_cons ok_var (ok_cons ok_var (ok_cons ok_var (ok_cons ok_var (ok_cons ok_var ok_nil)))))) (ok_cons ok_var ok_nil))))) (ok_bNot (ok_T (ok_call ok__law_says (ok_cons (ok_call ok_is_on (ok_cons ok_var (ok_cons ok_var (ok_cons ok_var (ok_cons ok_var (ok_cons ok_var ok_nil)))))) (ok_cons ok_var ok_nil)))))) (ok_sRet ok_con) ok_sNil) (ok_sRet (ok_call ok__law_says (ok_cons (ok_call ok_is_flat (ok_cons ok_var (ok_cons ok_var (ok_cons ok_var ok_nil)))) (ok_cons (ok_2 (ok_1 (ok_lF (ok_comp (ok_iOf ok_var) ok_gN ok_yes (ok_tup (ok_cons (ok_2 ok_var ok_var) (ok_cons (ok_2 ok_var ok_var) ok_nil)))))) (ok_2 (ok_1 (ok_2 ok_var ok_var)) (ok_1 (ok_2 ok_var ok_var)))) ok_nil)))))))))))))))))))))
theorem ok__law_net_holds : OkF sp__law_net_holds x__law_net_holds := ok_fn okb__law_net_holds
def y_law : XS := (xsSeq (xsAsg (xCall x__law_state [] (xCons (xVar 0) xNil)) (xgN 1)) (xsSeq (xsFor (xiRg1 (xCon (.int 5))) (xgN 2) (xsIf (xbNot (xT (xCall x__law_net_holds [] (xCons (xVar 1) xNil)))) (xsRet (xCon (.bl false))) xsNil)) (xsSeq (xsFor (xiOf (xTup (xCons (xCon (.int 1)) (xCons (xCon (.int 2)) (xCons (xCon (.int 3)) xNil))))) (xgN 3) (xsIf (xbNot (xT (xCall (x__law_same 4) [] (xCons (xCall x_face_row [] (xCons (xMake "Net" x_Net_init [] (xCons (xCall x__law_simplex [] (xCons (xVar 3) xNil)) xNil)) xNil)) (xCons (x1 fTup (xF false (xComp [7] (xiRg1 (xVar 3)) (xgN 7) xbYes (xCall x__law_choose [] (xCons (x2 fAdd (xVar 3) (xCon (.int 1))) (xCons (x2 fAdd (xVar 7) (xCon (.int 1))) xNil)))))) xNil))))) (xsRet (xCon (.bl false))) xsNil)) (xsSeq (xsAsg (xMake "Net" x_Net_init [] (xCons (xCall x__law_simplex [] (xCons (xCon (.int 3)) xNil)) xNil)) (xgN 4)) (xsSeq (xsIf (xbOr (xT (x2 fNe (xCall x_euler [] (xCons (xVar 4) xNil)) (xCon (.int 2)))) (xbOr (xT (x2 (fIs true) (xCall x_is_flat [] (xCons (xVar 4) (xCons (xCon (.int 0)) (xCons (xCon (.int 2)) xNil)))) (xCon (.bl false)))) (xT (x2 (fIs true) (xCall x_are_told [] (xCons (xVar 4) xNil)) (xCon (.bl true)))))) (xsRet (xCon (.bl false))) xsNil) (xsSeq (xsAsg (xF false (xDisp (xCons (xTup (xCons (xCon (.gl "faces")) (xCons (xTup (xCons (xVar 4) (xCons (xCon (.int 3)) xNil))) xNil))) (xCons (xTup (xCons (xCon (.gl "faces")) (xCons (xTup (xCons (xVar 4) (xCons (x1 fNeg (xCon (.int 1))) xNil))) xNil))) (xCons (xTup (xCons (xCon (.gl "faces")) (xCons (xTup (xCons (xCon .non) (xCons (xCon (.int 0)) xNil))) xNil))) (xCons (xTup (xCons (xCon (.gl "faces")) (xCons (xTup (xCons (xVar 4) (xCons (xCon (.bl true)) xNil))) xNil))) (xCons (xTup (xCons (xCon (.gl "face_of")) (xCons (xTup (xCons (xVar 4) (xCons (xCon (.int 0)) (xCons (xCon (.int 24)) xNil)))) xNil))) xNil))))))) (xgN 5)) (xsSeq (xsAsg (xF false (xl2 fCatL (xVar 5) (xF false (xDisp (xCons (xTup (xCons (xCon (.gl "face_of")) (xCons (xTup (xCons (xVar 4) (xCons (xCon (.int 3)) (xCons (xCon (.int 0)) xNil)))) xNil))) (xCons (xTup (xCons (xCon (.gl "marks")) (xCons (xTup (xCons (xVar 4) (xCons (x1 fNeg (xCon (.int 1))) xNil))) xNil))) (xCons (xTup (xCons (xCon (.gl "components")) (xCons (xTup (xCons (xVar 4) (xCons (xTup (xCons (xCon (.int 1)) (xCons (xCon (.int 0)) xNil))) xNil))) xNil))) (xCons (xTup (xCons (xCon (.gl "components")) (xCons (xTup (xCons (xVar 4) (xCons (xTup (xCons (xCon (.int 0)) (xCons (xCon (.int 0)) xNil))) xNil))) xNil))) (xCons (xTup (xCons (xCon (.gl "components")) (xCons (xTup (xCons (xVar 4) (xCons (xF false (xDisp (xCons (xCon (.int 0)) xNil))) xNil))) xNil))) xNil))))))))) (xgN 5)) (xsSeq (xsAsg (xF false (xl2 fCatL (xVar 5) (xF false (xDisp (xCons (xTup (xCons (xCon (.gl "components")) (xCons (xTup (xCons (xVar 4) (xCons (xTup (xCons (xCon (.int 3)) xNil)) xNil))) xNil))) (xCons (xTup (xCons (xCon (.gl "components")) (xCons (xTup (xCons (xCon .non) (xCons (xTup xNil) xNil))) xNil))) (xCons (xTup (xCons (xCon (.gl "face_row")) (xCons (xTup (xCons (xCon .non) xNil)) xNil))) (xCons (xTup (xCons (xCon (.gl "are_told")) (xCons (xTup (xCons (xCon (.int 5)) xNil)) xNil))) xNil)))))))) (xgN 5)) (xsSeq (xsAsg (xF false (xl2 fCatL (xVar 5) (xF false (xDisp (xCons (xTup (xCons (xCon (.gl "euler")) (xCons (xTup (xCons (xTup (xCons (xTup (xCons (xCon (.int 1)) (xCons (xCon (.int 0)) xNil))) xNil)) xNil)) xNil))) (xCons (xTup (xCons (xCon (.gl "is_flat")) (xCons (xTup (xCons (xVar 4) (xCons (xCon (.int 1)) (xCons (xCon (.int 1)) xNil)))) xNil))) (xCons (xTup (xCons (xCon (.gl "is_flat")) (xCons (xTup (xCons (xVar 4) (xCons (xCon (.int 2)) (xCons (xCon (.int 1)) xNil)))) xNil))) (xCons (xTup (xCons (xCon (.gl "is_flat")) (xCons (xTup (xCons (xVar 4) (xCons (xCon (.int 0)) (xCons (xCon (.int 3)) xNil)))) xNil))) xNil)))))))) (xgN 5)) (xsSeq (xsAsg (xF false (xDisp (xCons (xTup (xCons (xVar 4) (xCons (xCon (.int 0)) (xCons (xCon (.int 0)) (xCons (xCon (.int 0)) (xCons (xCon (.int 1)) xNil)))))) (xCons (xTup (xCons (xVar 4) (xCons (xCon (.int 0)) (xCons (xCon (.int 4)) (xCons (xCon (.int 1)) (xCons (xCon (.int 0)) xNil)))))) (xCons (xTup (xCons (xVar 4) (xCons (xCon (.int 0)) (xCons (xCon (.int 0)) (xCons (xCon (.int 2)) (xCons (xCon (.int 4)) xNil)))))) (xCons (xTup (xCons (xVar 4) (xCons (xCon (.int 3)) (xCons (xCon (.int 0)) (xCons (xCon (.int 1)) (xCons (xCon (.int 0)) xNil)))))) (xCons (xTup (xCons (xCon .non) (xCons (xCon (.int 0)) (xCons (xCon (.int 0)) (xCons (xCon (.int 1)) (xCons (xCon (.int 0)) xNil)))))) xNil))))))) (xgN 6)) (xsRet (xCall x__law_all_malformed [] (xCons (xF false (xl2 fCatL (xVar 5) (xF false (xComp [8] (xiOf (xVar 6)) (xgN 8) xbYes (xTup (xCons (xCon (.gl "is_on")) (xCons (xVar 8) xNil))))))) xNil)))))))))))))
def x_law : XF := xFn y_law 9 1
theorem okb_law : OkS b_law y_law := (ok_sSeq (ok_sAsg (ok_call ok__law_state (ok_cons ok_var ok_nil)) ok_gN) (ok_sSeq (ok_sFor (ok_iRg1 ok_con) ok_gN (ok_sIf (ok_bNot (ok_T (ok_call ok__law_net_holds (ok_cons ok_var ok_nil)))) (ok_sRet ok_con) ok_sNil)) (ok_sSeq (ok_sFor (ok_iOf (ok_tup (ok_cons ok_con (ok_cons ok_con (ok_cons ok_con ok_nil))))) ok_gN (ok_sIf (ok_bNot (ok_T (ok_call (ok__law_same 4) (ok_cons (ok_call ok_face_row (ok_cons (ok_make ok_Net_init (ok_cons (ok_call ok__law_simplex (ok_cons ok_var ok_nil)) ok_nil)) ok_nil)) (ok_cons (ok_1 (ok_lF (ok_comp (ok_iRg1 ok_var) ok_gN ok_yes (ok_call ok__law_choose (ok_cons (ok_2 ok_var ok_con) (ok_cons (ok_2 ok_var ok_con) ok_nil)))))) ok_nil))))) (ok_sRet ok_con) ok_sNil)) (ok_sSeq (ok_sAsg (ok_make ok_Net_init (ok_cons (ok_call ok__law_simplex (ok_cons ok_con ok_nil)) ok_nil)) ok_gN) (ok_sSeq (ok_sIf (ok_bOr (ok_T (ok_2 (ok_call ok_euler (ok_cons ok_var ok_nil)) ok_con)) (ok_bOr (ok_T (ok_2 (ok_call ok_is_flat (ok_cons ok_var (ok_cons ok_con (ok_cons ok_con ok_nil)))) ok_con)) (ok_T (ok_2 (ok_call ok_are_told (ok_cons ok_var ok_nil)) ok_con)))) (ok_sRet ok_con) ok_sNil) (ok_sSeq (ok_sAsg (ok_lF (ok_disp (ok_cons (ok_tup (ok_cons ok_con (ok_cons (ok_tup (ok_cons ok_var (ok_cons ok_con ok_nil))) ok_nil))) (ok_cons (ok_tup (ok_cons ok_con (ok_cons (ok_tup (ok_cons ok_var (ok_cons (ok_1 ok_con) ok_nil))) ok_nil))) (ok_cons (ok_tup (ok_cons ok_con (ok_cons (ok_tup (ok_cons ok_con (ok_cons ok_con ok_nil))) ok_nil))) (ok_cons (ok_tup (ok_cons ok_con (ok_cons (ok_tup (ok_cons ok_var (ok_cons ok_con ok_nil))) ok_nil))) (ok_cons (ok_tup (ok_cons ok_con (ok_cons (ok_tup (ok_cons ok_var (ok_cons ok_con (ok_cons ok_con ok_nil)))) ok_nil))) ok_nil))))))) ok_gN) (ok_sSeq (ok_sAsg (ok_lF (ok_l2 ok_var (ok_lF (ok_disp (ok_cons (ok_tup (ok_cons ok_con (ok_cons (ok_tup (ok_cons ok_var (ok_cons ok_con (ok_cons ok_con ok_nil)))) ok_nil))) (ok_cons (ok_tup (ok_cons ok_con (ok_cons (ok_tup (ok_cons ok_var (ok_cons (ok_1 ok_con) ok_nil))) ok_nil))) (ok_cons (ok_tup (ok_cons ok_con (ok_cons (ok_tup (ok_cons ok_var (ok_cons (ok_tup (ok_cons ok_con (ok_cons ok_con ok_nil))) ok_nil))) ok_nil))) (ok_cons (ok_tup (ok_cons ok_con (ok_cons (ok_tup (ok_cons ok_var (ok_cons (ok_tup (ok_cons ok_con (ok_cons ok_con ok_nil))) ok_nil))) ok_nil))) (ok_cons (ok_tup (ok_cons ok_con (ok_cons (ok_tup (ok_cons ok_var (ok_cons (ok_lF (ok_disp (ok_cons ok_con ok_nil))) ok_nil))) ok_nil))) ok_nil))))))))) ok_gN) (ok_sSeq (ok_sAsg (ok_lF (ok_l2 ok_var (ok_lF (ok_disp (ok_cons (ok_tup (ok_cons ok_con (ok_cons (ok_tup (ok_cons ok_var (ok_cons (ok_tup (ok_cons ok_con ok_nil)) ok_nil))) ok_nil))) (ok_cons (ok_tup (ok_cons ok_con (ok_cons (ok_tup (ok_cons ok_con (ok_cons (ok_tup ok_nil) ok_nil))) ok_nil))) (ok_cons (ok_tup (ok_cons ok_con (ok_cons (ok_tup (ok_cons ok_con ok_nil)) ok_nil))) (ok_cons (ok_tup (ok_cons ok_con (ok_cons (ok_tup (ok_cons ok_con ok_nil)) ok_nil))) ok_nil)))))))) ok_gN) (ok_sSeq (ok_sAsg (ok_lF (ok_l2 ok_var (ok_lF (ok_disp (ok_cons (ok_tup (ok_cons ok_con (ok_cons (ok_tup (ok_cons (ok_tup (ok_cons (ok_tup (ok_cons ok_con (ok_cons ok_con ok_nil))) ok_nil)) ok_nil)) ok_nil))) (ok_cons (ok_tup (ok_cons ok_con (ok_cons (ok_tup (ok_cons ok_var (ok_cons ok_con (ok_cons ok_con ok_nil)))) ok_nil))) (ok_cons (ok_tup (ok_cons ok_con (ok_cons (ok_tup (ok_cons ok_var (ok_cons ok_con (ok_cons ok_con ok_nil)))) ok_nil))) (ok_cons (ok_tup (ok_cons ok_con (ok_cons (ok_tup (ok_cons ok_var (ok_cons ok_con (ok_cons ok_con ok_nil)))) ok_nil))) ok_nil)))))))) ok_gN) (ok_sSeq (ok_sAsg (ok_lF (ok_disp (ok_cons (ok_tup (ok_cons ok_var (ok_cons ok_con (ok_cons ok_con (ok_cons ok_con (ok_cons ok_con ok_nil)))))) (ok_cons (ok_tup (ok_cons ok_var (ok_cons ok_con (ok_cons ok_con (ok_cons ok_con (ok_cons ok_con ok_nil)))))) (ok_cons (ok_tup (ok_cons ok_var (ok_cons ok_con (ok_cons ok_con (ok_cons ok_con (ok_cons ok_con ok_nil)))))) (ok_cons (ok_tup (ok_cons ok_var (ok_cons ok_con (ok_cons ok_con (ok_cons ok_con (ok_cons ok_con ok_nil)))))) (ok_cons (ok_tup (ok_cons ok_con (ok_cons ok_con (ok_cons ok_con (ok_cons ok_con (ok_cons ok_con ok_nil)))))) ok_nil))))))) ok_gN) (ok_sRet (ok_call ok__law_all_malformed (ok_cons (ok_lF (ok_l2 ok_var (ok_lF (ok_comp (ok_iOf ok_var) ok_gN ok_yes (ok_tup (ok_cons ok_con (ok_cons ok_var ok_nil))))))) ok_nil)))))))))))))
theorem ok_law : OkF sp_law x_law := ok_fn okb_law
end K03
end
section
set_option maxHeartbeats 4000000
namespace K03
open PySem (Str)
open Mi
--@ is_integer
theorem e_is_integer {M : List O} (hM : MemOk M) (n : Int) : x_is_integer [.int n] M = .ok (.bl true) M := by
  refine fn_pl0 rfl hM rfl ?_
  unfold y_is_integer
  simp!
  rfl
--@ is_count
theorem e_is_count {M : List O} (hM : MemOk M) (n a b : Int) : x_is_count [.int n, .int a, .int b] M = .ok (.bl (decide (a ≤ n ∧ n ≤ b))) M := by
  refine fn_pl0 rfl hM rfl ?_
  unfold y_is_count
  simp! [e_is_integer hM, fLe_int]
  by_cases h1 : a ≤ n
  · by_cases h2 : n ≤ b <;> simp [h1, h2, bind_ok, ofO_some]
  · simp [h1, bind_ok, ofO_some]
--@ check_count
theorem e_check_count {M : List O} (hM : MemOk M) {n a b : Int} (h : a ≤ n ∧ n ≤ b) : x_check_count [.int n, .int a, .int b] M = .ok .non M := by
  refine fn_nx0 (env := [some (.int n), some (.int a), some (.int b)]) rfl hM ?_
  unfold y_check_count
  simp! [e_is_count hM]
  rw [decide_eq_true h]
  simp!
--@ then
theorem e_then {M : List O} {a b : List Nat} (hM : MemOk M) (ha : a.length ≤ lim) (h : ∀ x ∈ a, x < b.length) : x_then [tN a, tN b] M = .ok (tN (a.map (Pl.sel b))) M := by
  refine fn_pl0 rfl hM (nr_tN _) ?_
  unfold y_then
  simp!
  rw [comp1 a nI (fun x => nI (Pl.sel b x)) (by unfold xiOf; simp! [itD_tN]) ha fun x hx => by
    simp! [wipeE, fIdx_tN (h x hx)]; rfl]
  simp! [fTup_lst]
  unfold tN
  rw [List.map_map]; rfl
--@ is_order
theorem e_is_order {M : List O} {a : List Nat} (hM : MemOk M) (h1 : 1 ≤ a.length ∧ a.length ≤ 4000) (hn : a.Nodup) (h : ∀ x ∈ a, x < a.length) : x_is_order [tN a] M = .ok (.bl true) M := by
  refine fn_pl0 rfl hM rfl ?_
  unfold y_is_order
  refine seq_if_f (M' := M) ?_ ?_
  · have e1 : decide ((1 : Int) ≤ a.length) = true := by simp; omega
    have e2 : decide ((a.length : Int) ≤ 4000) = true := by simp; omega
    simp! [fIsT_tN, fLen_tN, fLe_int, e1, e2]
  refine seq_nx (M' := M) (env' := [some (tN a), some (nI a.length), none]) (by simp! [fLen_tN]) ?_
  refine seq_if_f (M' := M) ?_ ?_
  · simp!
    rw [comp1 a nI (fun x => .bl true) (by unfold xiOf; simp! [itD_tN]) (le_lim (by omega)) fun x hx => by
      have := h x hx
      have e : decide ((0 : Int) ≤ x ∧ (x : Int) ≤ a.length - 1) = true := by simp; omega
      simp! [wipeE, fSub_int, e_is_count hM, e]]
    simp! [fAll_map]
    simp
  · simp! [fLenSet_tN h1.2, fEq_int, dd_id hn]
    simp
--@ go_together
theorem e_go_together {M : List O} {fl : List (List Nat)} {m : Nat} (hM : MemOk M) (F : Pl.Flips fl m) (hm : m ≤ 4000) (hn : fl.length ≤ 6) (C : Pl.Coms fl m) : x_go_together [tT fl] M = .ok (.bl true) M := by
  refine fn_E rfl hM rfl ?_
  have into : ∀ o ∈ fl, ∀ x ∈ o, x < m := fun o ho x hx => by
    obtain ⟨y, hy, e⟩ := List.mem_iff_getElem.mp hx
    have := F.into o ho y (by rw [← F.len o ho]; exact hy)
    unfold Pl.sel at this
    rw [List.getD_eq_getElem?_getD, List.getElem?_eq_getElem hy, e] at this
    exact this
  unfold y_go_together
  refine E_seq (E_for fl.zipIdx (fun p => .tup [.int (p.2 : Int), tN p.1]) (fun _ env M' => (∃ j1 j2 j3, env = [some (tT fl), j1, j2, j3]) ∧ M' = M) (iEnTu_of (M' := M) (by simp! [tT])) ⟨⟨_, _, _, rfl⟩, rfl⟩ ?_ ?_)
  · rintro k hk env M1 ⟨⟨j1, j2, j3, rfl⟩, rfl⟩
    have hi : k < fl.length := by simpa using hk
    have ho : Pl.item fl k = fl[k] := by unfold Pl.item; rw [List.getD_eq_getElem?_getD, List.getElem?_eq_getElem hi]; rfl
    have mo : fl[k] ∈ fl := List.getElem_mem hi
    refine ⟨([some (tT fl), some (.int k), some (tN fl[k]), j3], M1), by simp; rfl, ?_⟩
    refine E_for (fl.drop (k + 2)) tN (fun _ env M' => (∃ j, env = [some (tT fl), some (.int k), some (tN fl[k]), j]) ∧ M' = M1) (M' := M1) ?_ ⟨⟨_, rfl⟩, rfl⟩ ?_ ?_
    · refine iOf_tup ?_
      simp! [fAdd_int]
      show ofO (some (D.tup (cutD (fl.map tN) (some (((k + 2 : Nat)) : Int)) none))) M1 = _
      rw [cutD_from]; rfl
    · rintro i hi2 env M2 ⟨⟨j, rfl⟩, rfl⟩
      have hi2' : k + 2 + i < fl.length := by rw [List.length_drop] at hi2; omega
      have hd : (fl.drop (k + 2))[i] = fl[k + 2 + i] := by rw [List.getElem_drop]
      have ho2 : Pl.item fl (k + 2 + i) = fl[k + 2 + i] := by unfold Pl.item; rw [List.getD_eq_getElem?_getD, List.getElem?_eq_getElem hi2']; rfl
      have mt : fl[k + 2 + i] ∈ fl := List.getElem_mem hi2'
      rw [hd]
      refine ⟨_, rfl, E_if_e (M' := M2) ?_ (.ok ⟨_, rfl, ⟨_, rfl⟩, rfl⟩)⟩
      have l1 := F.len _ mo
      have l2 := F.len _ mt
      have ec : fl[k].map (Pl.sel fl[k + 2 + i]) = fl[k + 2 + i].map (Pl.sel fl[k]) := by
        apply List.ext_getElem?
        intro x
        by_cases hx : x < m
        · have h1 : x < fl[k].length := by omega
          have h2 : x < fl[k + 2 + i].length := by omega
          have := C k (k + 2 + i) (by omega) hi2' x hx
          rw [ho, ho2] at this
          rw [List.getElem?_map, List.getElem?_map, List.getElem?_eq_getElem h1, List.getElem?_eq_getElem h2]
          unfold Pl.sel at this ⊢
          rw [List.getD_eq_getElem?_getD (l := fl[k]) (i := x), List.getD_eq_getElem?_getD (l := fl[k + 2 + i]) (i := x), List.getElem?_eq_getElem h1, List.getElem?_eq_getElem h2] at this
          exact congrArg some this
        · rw [List.getElem?_eq_none (by simp; omega), List.getElem?_eq_none (by simp; omega)]
      simp! [e_then hM (le_lim (n := fl[k].length) (by omega)) (fun x hx => l2 ▸ into _ mo x hx), e_then hM (le_lim (n := fl[k + 2 + i].length) (by omega)) (fun x hx => l1 ▸ into _ mt x hx), fNe_tN, ec, decide_true]
    · rintro env M2 ⟨⟨j, rfl⟩, rfl⟩
      exact ⟨_, rfl, ⟨_, _, _, rfl⟩, rfl⟩
  · rintro env M1 ⟨⟨j1, j2, j3, rfl⟩, rfl⟩
    exact ⟨_, rfl, .of (M := M1) (by simp!) ⟨rfl, [], by simp⟩⟩
end K03
end
section
set_option maxHeartbeats 4000000
namespace K03
open PySem (Str)
open Mi
--@ joined_lots
theorem e_joined_lots {M : List O} {fl : List (List Nat)} {m : Nat} {dfl : D} (hM : MemOk M) (hd : itD dfl = some (fl.map tN)) (F : Pl.Flips fl m) (hm : m ≤ 4000) : x_joined_lots [dfl, nI m] M = .ok (tT (Pl.lots fl m)) M := by
  refine fn_E rfl hM (nr_tT _) ?_
  unfold y_joined_lots
  refine E_nx (env' := [some dfl, some (nI m), some (.ref M.length), some (.ref (M.length + 1)), none, none, none, none, none]) (M' := M ++ [.lst (bs m fun _ => false), .lst []]) ?_ ?_
  · simp! [fRepL_one (show m ≤ 16777216 by omega), bs_rep, List.append_assoc, List.length_append]
  refine E_seq (E_fold (List.range m) nI (fun found env M' => ∃ j4 j5 j6 j7 j8 G, env = [some dfl, some (nI m), some (.ref M.length), some (.ref (M.length + 1)), j4, j5, j6, j7, j8] ∧ M' = M ++ (.lst (bs m (Pl.inAny found)) :: .lst (found.map tN) :: G) ∧ Pl.LInv fl m found)
    (Pl.lotsS fl m) (s := []) (M' := M ++ [.lst (bs m fun _ => false), .lst []]) (iRg1_of (by simp!) (by omega)) ⟨_, _, _, _, _, [], rfl, rfl, .nil⟩ ?_ ?_)
  · rintro x hx found env M1 ⟨j4, j5, j6, j7, j8, G, rfl, rfl, L⟩
    have hx := List.mem_range.mp hx
    have hfl := Pl.found_len F.into L
    refine ⟨_, rfl, ?_⟩
    cases hs : Pl.inAny found x with
    | true =>
      refine E_if_e (M' := M ++ (.lst (bs m (Pl.inAny found)) :: .lst (found.map tN) :: G)) ?_ (.ok ⟨_, rfl, _, _, _, _, _, G, rfl, ?_, L.stepS F.into F.inv hx⟩)
      · simp! [fIdx_bs (M := M ++ (.lst (bs m (Pl.inAny found)) :: .lst (found.map tN) :: G)) (c := M.length) (by rw [getL0]; rfl) hx, hs]
      · unfold Pl.lotsS; rw [if_pos hs]
    | false =>
      have out := fun y (r : Pl.Reach fl x y) => Pl.out_of F.into F.inv L hx hs r
      have hS : Pl.lotsS fl m found x = found ++ [Pl.srt (Pl.line fl m x)] := by unfold Pl.lotsS; rw [hs]; rfl
      refine E_if_t (M' := M ++ (.lst (bs m (Pl.inAny found)) :: .lst (found.map tN) :: G)) ?_ ?_
      · simp! [fIdx_bs (M := M ++ (.lst (bs m (Pl.inAny found)) :: .lst (found.map tN) :: G)) (c := M.length) (by rw [getL0]; rfl) hx, hs]
      refine E_nx (asgSub (xs := bs m (Pl.inAny found)) (c := M.length) (k := x) (d := .bl true) (M := M ++ (.lst (bs m (Pl.inAny found)) :: .lst (found.map tN) :: G)) (by simp!) (by simp!) (by simp!) (by rw [getL0]; rfl) (by rw [bs_len]; exact hx)) ?_
      rw [setL0, List.set_cons_zero, bs_set]
      refine E_nx (env' := [some dfl, some (nI m), some (.ref M.length), some (.ref (M.length + 1)), some (nI x), some (.ref (M.length + (G.length + 2))), some (nI 0), j7, j8])
        (M' := M ++ (.lst (bs m fun z => Pl.inAny found z || [x].contains z) :: .lst (found.map tN) :: (G ++ [.lst ([x].map nI)]))) ?_ ?_
      · rw [show (fun z => Pl.inAny found z || [x].contains z) = fun z => Pl.inAny found z || z == x by funext z; rw [List.contains_cons, List.contains_nil, Bool.or_false]]
        simp! [List.append_assoc, List.length_append]
        rfl
      refine E_seq (E_wh (fun (s : List Nat × Nat) env M' => ∃ j7 j8 k, env = [some dfl, some (nI m), some (.ref M.length), some (.ref (M.length + 1)), some (nI x), some (.ref (M.length + (G.length + 2))), some (nI s.2), j7, j8] ∧
          M' = M ++ (.lst (bs m fun z => Pl.inAny found z || s.1.contains z) :: .lst (found.map tN) :: (G ++ [.lst (s.1.map nI)])) ∧ Pl.BInv fl m x s.1 s.2 ∧ m < k + s.2 ∧ Pl.bfs fl k s.1 s.2 = Pl.line fl m x)
        (fun s => decide (s.2 < s.1.length)) (fun s => m - s.2) ([x], 0) (by show m - 0 < 100000; omega) ⟨_, _, m + 1, rfl, rfl, ?_, by show m < m + 1 + 0; omega, rfl⟩ ?_ ?_ ?_)
      · exact ⟨by simp, fun z hz => by simp at hz; subst hz; exact .refl z, by simp, fun z hz => by simp at hz; subst hz; exact hx, Nat.zero_le _, fun j hj => absurd hj (Nat.not_lt_zero j)⟩
      · rintro ⟨l, a⟩ env M2 ⟨k7, k8, k, rfl, rfl, B, hk, hb⟩
        have hc : (M ++ (.lst (bs m fun z => Pl.inAny found z || l.contains z) :: .lst (found.map tN) :: (G ++ [.lst (l.map nI)])))[M.length + (G.length + 2)]? = some (.lst (l.map nI)) := by
          rw [getLk]; simp
        simp! [fLen_ref hc, fLt_int, List.length_map]
        congr 1
        simp
      · rintro ⟨l, a⟩ env M2 ⟨k7, k8, k, rfl, rfl, B, hk, hb⟩ hlt
        have hlt : a < l.length := of_decide_eq_true hlt
        have hlm : l.length ≤ m := Pl.nd_len B.nd B.lt
        have hz := Pl.getD_mem hlt
        obtain ⟨k', rfl⟩ : ∃ k', k = k' + 1 := by
          cases k with
          | zero => exfalso; simp at hk; have : l.length ≤ m := hlm; omega
          | succ k' => exact ⟨k', rfl⟩
        rw [Pl.bfs_next hlt] at hb
        have BN := B.next F.into hlt
        refine E_seq (E_fold fl tN (fun (l' : List Nat) env M' => ∃ j7 j8, env = [some dfl, some (nI m), some (.ref M.length), some (.ref (M.length + 1)), some (nI x), some (.ref (M.length + (G.length + 2))), some (nI a), j7, j8] ∧
          M' = M ++ (.lst (bs m fun z => Pl.inAny found z || l'.contains z) :: .lst (found.map tN) :: (G ++ [.lst (l'.map nI)])) ∧ (∃ t, l' = l ++ t) ∧ l'.Nodup ∧ ∀ z ∈ l', z < m)
          (fun l' o => Pl.ins l' (Pl.sel o (l.getD a 0))) (s := l) (M' := M ++ (.lst (bs m fun z => Pl.inAny found z || l.contains z) :: .lst (found.map tN) :: (G ++ [.lst (l.map nI)]))) ?_ ⟨_, _, rfl, rfl, ⟨[], by simp⟩, B.nd, B.lt⟩ ?_ ?_)
        · unfold xiOf
          simp! [hd]
        · rintro o ho l' env M3 ⟨k7, k8, rfl, rfl, ⟨t, rfl⟩, nd, lt⟩
          have hl' := Pl.nd_len nd lt
          have hz' : (l ++ t).getD a 0 = l.getD a 0 := Pl.getD_app hlt
          have hzm : l.getD a 0 < m := B.lt _ hz
          have hy : Pl.sel o (l.getD a 0) < m := F.into o ho _ hzm
          have hol : l.getD a 0 < o.length := by rw [F.len o ho]; exact hzm
          have hf := out _ (.step ho (B.rc _ hz))
          have hc : (M ++ (.lst (bs m fun z => Pl.inAny found z || (l ++ t).contains z) :: .lst (found.map tN) :: (G ++ [.lst ((l ++ t).map nI)])))[M.length + (G.length + 2)]? = some (.lst ((l ++ t).map nI)) := by
            rw [getLk]; simp
          have hc0 : (M ++ (.lst (bs m fun z => Pl.inAny found z || (l ++ t).contains z) :: .lst (found.map tN) :: (G ++ [.lst ((l ++ t).map nI)])))[M.length]? = some (.lst (bs m fun z => Pl.inAny found z || (l ++ t).contains z)) := by
            rw [getL0]; rfl
          refine ⟨_, rfl, ?_⟩
          refine E_nx (env' := [some dfl, some (nI m), some (.ref M.length), some (.ref (M.length + 1)), some (nI x), some (.ref (M.length + (G.length + 2))), some (nI a), some (tN o), some (nI (Pl.sel o (l.getD a 0)))])
            (M' := M ++ (.lst (bs m fun z => Pl.inAny found z || (l ++ t).contains z) :: .lst (found.map tN) :: (G ++ [.lst ((l ++ t).map nI)]))) ?_ ?_
          · simp! [fIdx_refN hc (show a < (l ++ t).length by rw [List.length_append]; omega), hz', fIdx_tN hol]
            rfl
          cases hin : (l ++ t).contains (Pl.sel o (l.getD a 0)) with
          | true =>
            refine E_if_e (M' := M ++ (.lst (bs m fun z => Pl.inAny found z || (l ++ t).contains z) :: .lst (found.map tN) :: (G ++ [.lst ((l ++ t).map nI)]))) ?_ (.ok ⟨_, rfl, _, _, rfl, ?_, ?_⟩)
            · simp! [fIdx_bs hc0 hy, hf, hin, Bool.or_true, Bool.false_or]
            · unfold Pl.ins; rw [if_pos (List.contains_iff_mem.mp hin)]
            · unfold Pl.ins; rw [if_pos (List.contains_iff_mem.mp hin)]; exact ⟨⟨t, rfl⟩, nd, lt⟩
          | false =>
            have hi : Pl.ins (l ++ t) (Pl.sel o (l.getD a 0)) = (l ++ t) ++ [Pl.sel o (l.getD a 0)] := by
              unfold Pl.ins; rw [if_neg fun q => by rw [List.contains_iff_mem.mpr q] at hin; cases hin]
            have nd' := Pl.ins_nd (y := Pl.sel o (l.getD a 0)) nd
            rw [hi] at nd'
            refine E_if_t (M' := M ++ (.lst (bs m fun z => Pl.inAny found z || (l ++ t).contains z) :: .lst (found.map tN) :: (G ++ [.lst ((l ++ t).map nI)]))) ?_ ?_
            · simp! [fIdx_bs hc0 hy, hf, hin, Bool.or_false]
            refine E_nx (asgSub (d := .bl true) (k := Pl.sel o (l.getD a 0)) (by simp!) (by simp!) (by simp!) hc0 (by rw [bs_len]; exact hy)) ?_
            rw [setL0, List.set_cons_zero, bs_set]
            refine .of (exprApp (c := M.length + (G.length + 2)) (xs := (l ++ t).map nI) (d := nI (Pl.sel o (l.getD a 0))) (by simp!) (by simp!) (by rw [getLk]; simp) (by rw [List.length_map]; exact Nat.lt_of_le_of_lt hl' (by show m < 16777216; omega))) ⟨_, rfl, _, _, rfl, ?_, ?_⟩
            · rw [setLk, List.set_cons_succ, List.set_cons_succ, set_last, hi]
              rw [show ((l ++ t).map nI ++ [nI (Pl.sel o (l.getD a 0))]) = ((l ++ t) ++ [Pl.sel o (l.getD a 0)]).map nI by simp]
              rw [show (fun z => (Pl.inAny found z || (l ++ t).contains z) || z == Pl.sel o (l.getD a 0)) = fun z => Pl.inAny found z || ((l ++ t) ++ [Pl.sel o (l.getD a 0)]).contains z by
                funext z; rw [Pl.contains_snoc, Bool.or_assoc]]
            · rw [hi]
              refine ⟨⟨t ++ [Pl.sel o (l.getD a 0)], by rw [List.append_assoc]⟩, nd', fun z hz => ?_⟩
              rcases List.mem_append.mp hz with hz | hz
              · exact lt z hz
              · simp at hz; subst hz; exact hy
        · rintro env M3 ⟨k7, k8, rfl, rfl, _, _, _⟩
          refine ⟨_, rfl, .of (a := .nx [some dfl, some (nI m), some (.ref M.length), some (.ref (M.length + 1)), some (nI x), some (.ref (M.length + (G.length + 2))), some (nI (a + 1)), k7, k8]) (by simp! [fAdd_int]; rfl) ⟨(Pl.row fl l (l.getD a 0), a + 1), _, rfl, ⟨_, _, k', rfl, rfl, BN, by show m < k' + (a + 1); simp at hk; omega, hb⟩, by show m - (a + 1) < m - a; omega⟩⟩
      · rintro ⟨l, a⟩ env M2 ⟨k7, k8, k, rfl, rfl, B, hk, hb⟩ hlt
        have hlt : ¬ a < l.length := of_decide_eq_false hlt
        have hl : l = Pl.line fl m x := by rw [← hb]; exact (Pl.bfs_end hlt).symm
        have hlm : l.length ≤ m := Pl.nd_len B.nd B.lt
        have hc : (M ++ (.lst (bs m fun z => Pl.inAny found z || l.contains z) :: .lst (found.map tN) :: (G ++ [.lst (l.map nI)])))[M.length + (G.length + 2)]? = some (.lst (l.map nI)) := by
          rw [getLk]; simp
        refine ⟨_, rfl, ?_⟩
        refine .of (exprApp (c := M.length + 1) (xs := found.map tN) (d := tN (Pl.srt l)) (by simp!) ?_ (by rw [getLk]; rfl) (by rw [List.length_map]; exact Nat.lt_of_le_of_lt hfl (by show m < 16777216; omega))) ⟨_, rfl, _, _, _, _, _, G ++ [.lst (l.map nI)], rfl, ?_, L.stepS F.into F.inv hx⟩
        · simp!
          have : fSrtF (.ref (M.length + (G.length + 2))) (M ++ (.lst (bs m fun z => Pl.inAny found z || l.contains z) :: .lst (found.map tN) :: (G ++ [.lst (l.map nI)]))) = some ((Pl.srt l).map nI) := by
            unfold Pl.srt
            rw [← fSrtF_nI l (M ++ (.lst (bs m fun z => Pl.inAny found z || l.contains z) :: .lst (found.map tN) :: (G ++ [.lst (l.map nI)]))) (Nat.le_trans hlm (by show m ≤ 16777216; omega))]
            unfold fSrtF
            rw [rd_refl hc]; rfl
          simp! [this, fTup_lst]
          rfl
        · rw [setLk, List.set_cons_succ, List.set_cons_zero, hS, hl]
          rw [show (found.map tN ++ [tN (Pl.srt (Pl.line fl m x))]) = (found ++ [Pl.srt (Pl.line fl m x)]).map tN by simp]
          rw [show bs m (fun z => Pl.inAny found z || (Pl.line fl m x).contains z) = bs m (Pl.inAny (found ++ [Pl.srt (Pl.line fl m x)])) from bs_congr fun z _ => by
            unfold Pl.inAny
            rw [List.any_append, List.any_cons, List.any_nil, Bool.or_false]
            congr 1
            have : z ∈ Pl.line fl m x ↔ z ∈ Pl.srt (Pl.line fl m x) := Pl.srt_mem.symm
            by_cases q : z ∈ Pl.line fl m x
            · rw [List.contains_iff_mem.mpr q, List.contains_iff_mem.mpr (this.mp q)]
            · rw [Bool.eq_false_iff.mpr fun e => q (List.contains_iff_mem.mp e), Bool.eq_false_iff.mpr fun e => q (this.mpr (List.contains_iff_mem.mp e))]]
  · rintro env M1 ⟨j4, j5, j6, j7, j8, G, rfl, rfl, L⟩
    refine ⟨_, rfl, E_ret (d := tT (Pl.lots fl m)) (M' := M ++ (.lst (bs m (Pl.inAny ((List.range m).foldl (Pl.lotsS fl m) []))) :: .lst (((List.range m).foldl (Pl.lotsS fl m) []).map tN) :: G)) ?_ ⟨rfl, _, rfl⟩⟩
    simp! [fTup_ref (M := M ++ (.lst (bs m (Pl.inAny ((List.range m).foldl (Pl.lotsS fl m) []))) :: .lst (((List.range m).foldl (Pl.lotsS fl m) []).map tN) :: G)) (c := M.length + 1) (by rw [getLk]; rfl)]
    rw [Pl.lots_fold]
    rfl
end K03
end
section
set_option maxHeartbeats 4000000
namespace K03
open PySem (Str)
open Mi
--@ are_flips
theorem e_are_flips {M : List O} {fl : List (List Nat)} {m : Nat} (hM : MemOk M) (N : Pl.Net fl m) : x_are_flips [tT fl] M = .ok (.bl true) M := by
  have F := N.toFlips
  have hm := N.many
  have hr := N.rank
  refine fn_E rfl hM rfl ?_
  unfold y_are_flips
  refine E_if_f (M' := M) ?_ ?_
  · refine bOr_f (M' := M) (bNot_t (T_bl (by simp! [fIsT_tT]))) (bOr_f (M' := M) (bNot_t (T_bl ?_)) (bNot_t (T_bl (m1_of (xF_f (comp1 fl tN (fun _ => .bl true) (iOf_tup (by simp! [tT])) (le_lim (by omega)) fun o ho => ?_)) fAll_yes))))
    · have e1 : decide ((1 : Int) ≤ fl.length) = true := by simp; omega
      have e2 : decide ((fl.length : Int) ≤ 6) = true := by simp; omega
      simp! [fLen_tT, fLe_int, e1, e2]
    · have hl := F.len o ho
      simp! [wipeE, e_is_order hM (a := o) (by omega) (F.nodup ho) (fun x hx => hl ▸ F.mem_lt ho hx)]
  have h0 : (fl.getD 0 []).length = m := by
    have h0 : 0 < fl.length := by omega
    rw [List.getD_eq_getElem?_getD, List.getElem?_eq_getElem h0]
    exact F.len _ (List.getElem_mem h0)
  refine E_nx (env' := [some (tT fl), some (nI m), none]) (M' := M) ?_ ?_
  · simp! [fIdx_tT0 (show 0 < fl.length by omega), fLen_tN, h0]
  refine E_if_f (M' := M) ?_ ?_
  · refine bOr_f (M' := M) (bNot_t (T_bl (m1_of (xF_f (comp1 fl tN (fun _ => .bl true) (iOf_tup (by simp! [tT])) (le_lim (by omega)) fun o ho => ?_)) fAll_yes))) (bNot_t (T_bl (m1_of (xF_f (comp1 fl tN (fun _ => .bl true) (iOf_tup (by simp! [tT])) (le_lim (by omega)) fun o ho => ?_)) fAll_yes)))
    · have hl := F.len o ho
      simp! [wipeE, fLen_tN, fEq_nI, hl, decide_true]
    · have hl := F.len o ho
      simp! [wipeE, e_then hM (a := o) (b := o) (le_lim (by omega)) (fun x hx => hl ▸ F.mem_lt ho hx), F.twice ho]
      unfold xRange
      simp! [rgOk_nat (show m ≤ 16777216 by omega), lRg_eq, show (D.tup ((List.range m).map nI)) = tN (List.range m) from rfl, fEq_tN, decide_true]
  have h1 := Pl.lots_one F hm.1 N.conn
  refine E_ret (d := .bl true) (M' := M) ?_ ⟨rfl, [], by simp⟩
  simp! [e_go_together hM F hm.2 hr.2 N.com, e_joined_lots hM (dfl := tT fl) rfl F hm.2, fLen_tT, h1, fEq_int]
  rfl
--@ Net
abbrev netD (fl : List (List Nat)) (m : Nat) : D := .ins "Net" ["flips", "rank", "many"] [tT fl, nI fl.length, nI m]
theorem e_Net {M M1 : List O} {fl : List (List Nat)} {m : Nat} {a : XL} {env : Env} (h : a env M = .ok [tT fl] M1) (hM : M1.all nrO = true) (N : Pl.Net fl m) : xMake "Net" x_Net_init [] a env M = .ok (netD fl m) M1 := by
  have hr := N.rank
  have hM' : MemOk (M1 ++ [.ins "Net" [] []]) := memOk_of (by rw [List.all_append, hM]; rfl)
  have h0 : (fl.getD 0 []).length = m := by
    have h0 : 0 < fl.length := by omega
    rw [List.getD_eq_getElem?_getD, List.getElem?_eq_getElem h0]
    exact N.len _ (List.getElem_mem h0)
  have n1 : ¬ ("flips" : Str) = "rank" := by decide +kernel
  have n2 : ¬ ("flips" : Str) = "many" := by decide +kernel
  have n3 : ¬ ("rank" : Str) = "many" := by decide +kernel
  have key : x_Net_init [.ref M1.length, tT fl] (M1 ++ [.ins "Net" [] []]) = .ok .non (M1 ++ [.ins "Net" ["flips", "rank", "many"] [tT fl, nI fl.length, nI m]]) := by
    refine fn_nx (L := []) (env := [some (.ref M1.length), some (tT fl)]) rfl ?_ (by simp) (memOk_of (by rw [List.all_append, hM, Bool.true_and]; simp [nrO, nrs, nr, nr_tT])) 
    unfold y_Net_init
    rw [List.append_nil]
    refine seq_if_f (M' := M1 ++ [.ins "Net" [] []]) (by simp! [e_are_flips hM' N]) ?_
    refine seq_nx (fld_of (d := tT fl) (a := M1.length) (c := "Net") (fs := []) (xs := []) (by simp!) (by simp!) (by simp) (by decide +kernel) (by decide)) ?_
    rw [setL0]
    simp only [List.set_cons_zero, putFs]
    refine seq_nx (fld_of (d := nI fl.length) (a := M1.length) (c := "Net") (fs := ["flips"]) (xs := [tT fl]) (by simp! [fLen_tT]) (by simp!) (by simp) (by decide +kernel) (by decide)) ?_
    rw [setL0]
    simp only [List.set_cons_zero, putFs, n1, if_false]
    rw [fld_of (d := nI m) (a := M1.length) (c := "Net") (fs := ["flips", "rank"]) (xs := [tT fl, nI fl.length]) (by simp! [fIdx_tT0 (show 0 < fl.length by omega), fLen_tN, h0]) (by simp!) (by simp) (by decide +kernel) (by decide)]
    rw [setL0]
    simp only [List.set_cons_zero, putFs, n2, n3, if_false]
    rfl
  unfold xMake
  rw [h, bind_ok]
  simp only [List.cons_append, List.nil_append, List.append_nil]
  rw [key]
  dsimp only
  unfold closeR
  have hc : clD M1.length (M1 ++ [.ins "Net" ["flips", "rank", "many"] [tT fl, nI fl.length, nI m]]) (.ref M1.length) = some (netD fl m) := by
    unfold clD
    rw [if_neg (by omega), getL0]
    show (if RBs M1.length [tT fl, nI fl.length, nI m] = true then some _ else none) = _
    rw [if_pos (nrs_RB (by simp [nrs, nr, nr_tT]))]
  rw [hc, List.take_left']
  · dsimp only
    rw [if_pos (show M1.all (RBO M1.length) = true from memOk_of hM)]
  · rfl
theorem fFld_flips {fl : List (List Nat)} {m : Nat} {M : List O} : fFld "flips" (netD fl m) M = some (tT fl) := by rfl
theorem fFld_rank {fl : List (List Nat)} {m : Nat} {M : List O} : fFld "rank" (netD fl m) M = some (nI fl.length) := by rfl
theorem fFld_many {fl : List (List Nat)} {m : Nat} {M : List O} : fFld "many" (netD fl m) M = some (nI m) := by rfl
theorem fIsC_net {fl : List (List Nat)} {m : Nat} {M : List O} : fIsC "Net" (netD fl m) M = some (.bl true) := by rfl
--@ check_net
theorem e_check_net {M : List O} {fl : List (List Nat)} {m : Nat} (hM : MemOk M) : x_check_net [netD fl m] M = .ok .non M := by
  refine fn_nx0 (env := [some (netD fl m)]) rfl hM ?_
  unfold y_check_net
  simp! [fIsC_net]
end K03
end
section
set_option maxHeartbeats 4000000
namespace K03
open PySem (Str)
open Mi
--@ check_flag
theorem e_check_flag {M : List O} {fl : List (List Nat)} {m x : Nat} (hM : MemOk M) (hx : x < m) : x_check_flag [netD fl m, nI x] M = .ok .non M := by
  refine fn_nx0 (env := [some (netD fl m), some (nI x)]) rfl hM ?_
  unfold y_check_flag
  simp! [e_check_net hM, fFld_many, fSub_int, e_check_count hM (n := x) (a := 0) (b := (m : Int) - 1) (by omega)]
--@ is_rising
theorem e_is_rising {M : List O} {is : List Nat} {n : Nat} (hM : MemOk M) (h : is.Pairwise (· < ·)) (hn : ∀ i ∈ is, i < n) (hl : is.length ≤ 4000) : x_is_rising [tN is, .int 0, .int ((n : Int) - 1)] M = .ok (.bl true) M := by
  refine fn_E rfl hM rfl ?_
  unfold y_is_rising
  refine E_if_f (M' := M) ?_ ?_
  · refine bOr_f (M' := M) (bNot_t (T_bl (by simp! [fIsT_tN]))) (bNot_t (T_bl (m1_of (xF_f (comp1 is nI (fun _ => .bl true) (iOf_tup (by simp! [tN])) (le_lim (by omega)) fun x hx => ?_)) fAll_yes)))
    have := hn x hx
    simp! [wipeE, e_is_count hM]
    rw [decide_eq_true (by omega)]
  · refine E_ret (d := .bl true) (M' := M) (m1_of (xF_f (compG (is.zip (is.drop 1)) (fun p => .tup [nI p.1, nI p.2]) (fun _ => .bl true) ?_ (le_lim (by rw [List.length_zip]; omega)) ?_)) fAll_yes) ⟨rfl, [], by simp⟩
    · unfold xiZip
      simp! [fCut, tN, show ((1 : Int)) = ((1 : Nat) : Int) from rfl, cutD_from, zipOf, zipD_eq]
    · rintro ⟨a, b⟩ hp
      refine ⟨(((wipeE (startE 6 [tN is, .int 0, .int ((n : Int) - 1)]) [4, 5]).set 4 (some (nI a))).set 5 (some (nI b)), M), rfl, ?_⟩
      have hab : a < b := by
        obtain ⟨k, hk⟩ := List.mem_iff_getElem?.mp hp
        rw [List.getElem?_zip_eq_some] at hk
        obtain ⟨h1, h2⟩ := hk
        rw [List.getElem?_drop] at h2
        obtain ⟨l1, e1⟩ := List.getElem?_eq_some_iff.mp h1
        obtain ⟨l2, e2⟩ := List.getElem?_eq_some_iff.mp h2
        have := List.pairwise_iff_getElem.mp h k (1 + k) l1 l2 (by omega)
        rw [e1, e2] at this
        exact this
      have e : decide ((a : Int) < b) = true := by simp; exact hab
      simp! [wipeE, fLt_int, e]
--@ check_kept
theorem e_check_kept {M : List O} {fl : List (List Nat)} {m : Nat} {is : List Nat} (hM : MemOk M) (h : is.Pairwise (· < ·)) (hn : ∀ i ∈ is, i < fl.length) (hl : is.length ≤ 4000) : x_check_kept [netD fl m, tN is] M = .ok .non M := by
  refine fn_nx0 (env := [some (netD fl m), some (tN is)]) rfl hM ?_
  unfold y_check_kept
  simp! [e_check_net hM, fFld_rank, fSub_int, e_is_rising hM h hn hl]
--@ plain_components
theorem e_plain_components {M : List O} {fl : List (List Nat)} {m : Nat} {is : List Nat} {dk : D} (hM : MemOk M) (F : Pl.Flips fl m) (hm : m ≤ 4000) (h0 : 1 ≤ fl.length) (hd : itD dk = some (is.map nI)) (hn : ∀ i ∈ is, i < fl.length) (hl : is.length ≤ 4000) :
    x_plain_components [tT fl, dk] M = .ok (tT (Pl.lots (Pl.kept fl is) m)) M := by
  refine fn_pl0 rfl hM (nr_tT _) ?_
  unfold y_plain_components
  have e1 : xComp [2] (xiOf (xVar 1)) (xgN 2) xbYes (x2 fIdx (xVar 0) (xVar 2)) [some (tT fl), some dk, none] M = .ok ((Pl.kept fl is).map tN) M := by
    unfold Pl.kept
    rw [comp1 is nI (fun i => tN (Pl.item fl i)) (by unfold xiOf; simp! [hd]) (le_lim (by omega)) fun i hi => by
      simp! [wipeE, fIdx_tT (hn i hi)]; rfl]
    rw [List.map_map]; rfl
  have e2 : (fl.getD 0 []).length = m := by
    have h0 : 0 < fl.length := by omega
    rw [List.getD_eq_getElem?_getD, List.getElem?_eq_getElem h0]
    exact F.len _ (List.getElem_mem h0)
  simp! [e1, fIdx_tT0 (show 0 < fl.length by omega), fLen_tN, e2, e_joined_lots hM (dfl := .lst ((Pl.kept fl is).map tN)) rfl (F.kept hn) hm]
--@ components
theorem e_components {M : List O} {fl : List (List Nat)} {m : Nat} {is : List Nat} (hM : MemOk M) (N : Pl.Net fl m) (h : is.Pairwise (· < ·)) (hn : ∀ i ∈ is, i < fl.length) (hl : is.length ≤ 4000) : x_components [netD fl m, tN is] M = .ok (tT (Pl.lots (Pl.kept fl is) m)) M := by
  refine fn_pl0 rfl hM (nr_tT _) ?_
  unfold y_components
  simp! [e_check_kept hM h hn hl, fFld_flips, e_plain_components hM N.toFlips N.many.2 N.rank.1 (dk := tN is) rfl hn hl]
--@ places_in
theorem e_places_in {M : List O} {ls : List (List Nat)} {m : Nat} (hM : MemOk M) (P : Pl.Part ls m) (hm : m ≤ 4000) : x_places_in [tT ls, nI m] M = .ok (.lst (((List.range m).map (Pl.idx ls)).map nI)) M := by
  have hd : nrs (((List.range m).map (Pl.idx ls)).map nI) = true := nrs_map (f := nI) nr_nI _
  unfold x_places_in
  refine fn_EL rfl hM hd ?_
  unfold y_places_in
  refine E_nx (env' := [some (tT ls), some (nI m), some (.ref M.length), none, none, none]) (M' := M ++ [.lst (List.replicate m (.int 0))]) ?_ ?_
  · simp! [fRepL_one (d := .int 0) (show m ≤ 16777216 by omega)]
  rw [show List.replicate m (D.int 0) = (List.replicate m 0).map nI by rw [List.map_replicate]; rfl]
  refine E_seq (E_fold ls.zipIdx (fun p => .tup [.int (p.2 : Int), tN p.1]) (fun f env M' => (∃ j3 j4 j5, env = [some (tT ls), some (nI m), some (.ref M.length), j3, j4, j5]) ∧ M' = M ++ [.lst (f.map nI)] ∧ f.length = m)
    (fun f p => Pl.placeL p.2 f p.1) (s := List.replicate m 0) (iEnTu_of (M' := M ++ [.lst ((List.replicate m 0).map nI)]) (by simp! [tT])) ⟨⟨_, _, _, rfl⟩, rfl, by simp⟩ ?_ ?_)
  · rintro ⟨own, k⟩ hp f env M1 ⟨⟨j3, j4, j5, rfl⟩, rfl, hf⟩
    have hown : own ∈ ls := by
      have := List.mem_zipIdx_iff_getElem?.mp hp
      exact List.mem_of_getElem? this
    refine ⟨([some (tT ls), some (nI m), some (.ref M.length), some (nI k), some (tN own), j5], _), rfl, ?_⟩
    refine E_fold own nI (fun f env M' => (∃ j5, env = [some (tT ls), some (nI m), some (.ref M.length), some (nI k), some (tN own), j5]) ∧ M' = M ++ [.lst (f.map nI)] ∧ f.length = m) (fun f x => f.set x k) (s := f) (M' := M ++ [.lst (f.map nI)]) (iOf_tup (by simp! [tN])) ⟨⟨_, rfl⟩, rfl, hf⟩ ?_ ?_
    · rintro x hx f env M2 ⟨⟨j5, rfl⟩, rfl, hf⟩
      have hxm := P.lt own hown x hx
      refine ⟨_, rfl, .of (asgSub (c := M.length) (k := x) (d := nI k) (xs := f.map nI) (by simp!) (by simp!) (by simp!) (by rw [getL0]; rfl) (by rw [List.length_map, hf]; exact hxm)) ⟨_, rfl, ⟨_, rfl⟩, ?_, by simp [hf]⟩⟩
      rw [setL0, List.set_cons_zero, List.map_set]
    · rintro env M2 ⟨⟨j5, rfl⟩, rfl, hf⟩
      exact ⟨_, rfl, ⟨_, _, _, rfl⟩, rfl, hf⟩
  · rintro env M1 ⟨⟨j3, j4, j5, rfl⟩, rfl, hf⟩
    refine ⟨_, rfl, E_ret (d := .ref M.length) (M' := _) (by simp!; rfl) ⟨0, _, rfl, rfl, ?_⟩⟩
    rw [← Pl.places_eq P, Pl.placesF_fold]; rfl
--@ faces
theorem e_faces {M : List O} {fl : List (List Nat)} {m i : Nat} (hM : MemOk M) (N : Pl.Net fl m) (hi : i < fl.length) : x_faces [netD fl m, nI i] M = .ok (tT (Pl.facesP fl m i)) M := by
  refine fn_pl0 rfl hM (nr_tT _) ?_
  unfold y_faces
  have hr := N.rank
  have e1 : xComp [2] (xiRg1 (x1 (fFld "rank") (xVar 0))) (xgN 2) (xT (x2 fNe (xVar 2) (xVar 1))) (xVar 2) [some (netD fl m), some (nI i), none] M = .ok ((Pl.others fl.length i).map nI) M := by
    unfold Pl.others
    rw [comp1f (List.range fl.length) nI nI (fun j => !decide (j = i)) (iRg1_of (by simp! [fFld_rank]) (by omega)) (le_lim (by rw [List.length_range]; omega)) (fun j hj => by simp! [wipeE, fNe_nI]) (fun j hj _ => by simp! [wipeE])]
  have hol : (Pl.others fl.length i).length ≤ 4000 := by
    unfold Pl.others
    have := List.length_filter_le (fun j => !decide (j = i)) (List.range fl.length)
    rw [List.length_range] at this
    omega
  simp! [e_check_net hM, fFld_rank, fSub_int, e_check_count hM (n := i) (a := 0) (b := (fl.length : Int) - 1) (by omega), fFld_flips, e1, e_plain_components hM N.toFlips N.many.2 N.rank.1 (dk := .lst ((Pl.others fl.length i).map nI)) rfl (fun _ h => Pl.others_lt h) hol]
  rfl
--@ face_places
theorem e_face_places {M : List O} {fl : List (List Nat)} {m i : Nat} (hM : MemOk M) (N : Pl.Net fl m) (hi : i < fl.length) : x_face_places [netD fl m, nI i] M = .ok (.lst (((List.range m).map (Pl.pl fl m i)).map nI)) M := by
  refine fn_pl0 rfl hM (by unfold nr; exact nrs_map (f := nI) nr_nI _) ?_
  unfold y_face_places
  simp! [e_faces hM N hi, fFld_many, e_places_in hM (Pl.faces_part N.toFlips i) N.many.2]
  rfl
--@ face_of
theorem e_face_of {M : List O} {fl : List (List Nat)} {m i x : Nat} (hM : MemOk M) (N : Pl.Net fl m) (hi : i < fl.length) (hx : x < m) : x_face_of [netD fl m, nI i, nI x] M = .ok (nI (Pl.pl fl m i x)) M := by
  refine fn_pl0 rfl hM rfl ?_
  unfold y_face_of
  simp! [e_check_flag hM hx, fFld_rank, fSub_int, e_check_count hM (n := i) (a := 0) (b := (fl.length : Int) - 1) (by omega), e_face_places hM N hi, fIdx_lN (l := (List.range m).map (Pl.pl fl m i)) (k := x) (by simpa using hx)]
  simp [hx]
--@ face_row
theorem e_face_row {M : List O} {fl : List (List Nat)} {m : Nat} (hM : MemOk M) (N : Pl.Net fl m) : x_face_row [netD fl m] M = .ok (tN ((List.range fl.length).map fun i => (Pl.facesP fl m i).length)) M := by
  refine fn_pl0 rfl hM (nr_tN _) ?_
  unfold y_face_row
  have hr := N.rank
  have e1 : xComp [1] (xiRg1 (x1 (fFld "rank") (xVar 0))) (xgN 1) xbYes (x1 fLen (xCall x_faces [] (xCons (xVar 0) (xCons (xVar 1) xNil)))) [some (netD fl m), none] M = .ok (((List.range fl.length).map fun i => (Pl.facesP fl m i).length).map nI) M := by
    rw [comp1 (List.range fl.length) nI (fun i => nI (Pl.facesP fl m i).length) (iRg1_of (by simp! [fFld_rank]) (by omega)) (le_lim (by rw [List.length_range]; omega)) fun i hi => by
      simp! [wipeE, e_faces hM N (List.mem_range.mp hi), fLen_tT]]
    rw [List.map_map]; rfl
  simp! [e_check_net hM, e1, fTup_lst]
  rfl
--@ mark_rows
theorem e_mark_rows {M : List O} {fl : List (List Nat)} {m : Nat} (hM : MemOk M) (N : Pl.Net fl m) : x_mark_rows [netD fl m] M = .ok (.lst ((Pl.rowsP fl m).map tN)) M := by
  refine fn_pl0 rfl hM (by unfold nr; exact nrs_map nr_tN _) ?_
  unfold y_mark_rows
  have hr := N.rank
  have hm := N.many
  have e1 : xComp [2] (xiRg1 (x1 (fFld "rank") (xVar 0))) (xgN 2) xbYes (xCall x_face_places [] (xCons (xVar 0) (xCons (xVar 2) xNil))) [some (netD fl m), none, none, none, none] M = .ok ((List.range fl.length).map fun i => .lst (((List.range m).map (Pl.pl fl m i)).map nI)) M := by
    rw [comp1 (List.range fl.length) nI (fun i => .lst (((List.range m).map (Pl.pl fl m i)).map nI)) (iRg1_of (by simp! [fFld_rank]) (by omega)) (le_lim (by rw [List.length_range]; omega)) fun i hi => by
      simp! [wipeE, e_face_places hM N (List.mem_range.mp hi)]]
  simp! [e1]
  rw [comp1 (List.range m) nI (fun x => tN (Pl.rowP fl m x)) (iRg1_of (by simp! [fFld_many]) (by omega)) (le_lim (by rw [List.length_range]; omega)) fun x hx => by
    have hx := List.mem_range.mp hx
    simp! [wipeE]
    rw [comp1 (List.range fl.length) (fun i => .lst (((List.range m).map (Pl.pl fl m i)).map nI)) (fun i => nI (Pl.pl fl m i x)) (iOf_lst (by simp!)) (le_lim (by rw [List.length_range]; omega)) fun i hi => by
      simp! [wipeE, fIdx_lN (l := (List.range m).map (Pl.pl fl m i)) (k := x) (by simpa using hx)]
      simp [hx]]
    simp! [fTup_lst]
    unfold Pl.rowP tN
    rw [List.map_map]; rfl]
  simp!
  unfold Pl.rowsP
  rw [List.map_map]; rfl
--@ marks
theorem e_marks {M : List O} {fl : List (List Nat)} {m x : Nat} (hM : MemOk M) (N : Pl.Net fl m) (hx : x < m) : x_marks [netD fl m, nI x] M = .ok (tN (Pl.rowP fl m x)) M := by
  refine fn_pl0 rfl hM (nr_tN _) ?_
  unfold y_marks
  simp! [e_check_flag hM hx, e_mark_rows hM N, fIdx_map (l := Pl.rowsP fl m) (g := tN) (k := x) (by simpa [Pl.rowsP] using hx)]
  simp [Pl.rowsP]
end K03
end
section
set_option maxHeartbeats 4000000
namespace K03
open PySem (Str)
open Mi
--@ are_told
theorem e_are_told {M : List O} {fl : List (List Nat)} {m : Nat} (hM : MemOk M) (N : Pl.Net fl m) (hm : m < 64) : x_are_told [netD fl m] M = .ok (.bl (decide ((dd (Pl.rowsP fl m)).length = m))) M := by
  refine fn_pl0 rfl hM rfl ?_
  have h1 := N.many
  unfold y_are_told
  simp! [e_check_net hM, e_mark_rows hM N, fFld_many, fLenSet_rows (l := Pl.rowsP fl m) (by intro e; have := congrArg List.length e; simp [Pl.rowsP] at this; omega) (by simpa [Pl.rowsP] using hm), fEq_nI]
--@ is_on
theorem e_is_on {M : List O} {fl : List (List Nat)} {m i j a b : Nat} (hM : MemOk M) (N : Pl.Net fl m) (hi : i < fl.length) (hj : j < fl.length) (hij : i ≠ j) (ha : a < (Pl.facesP fl m i).length) (hb : b < (Pl.facesP fl m j).length) :
    x_is_on [netD fl m, nI i, nI a, nI j, nI b] M = .ok (.bl ((List.range m).any fun x => decide (Pl.pl fl m i x = a) && decide (Pl.pl fl m j x = b))) M := by
  refine fn_pl0 rfl hM rfl ?_
  have Pi := Pl.faces_part N.toFlips i
  have Pj := Pl.faces_part N.toFlips j
  have key : (decide (0 < andN (((Pl.item (Pl.facesP fl m i) a)).map fun n : Nat => (n : Int)) (((Pl.item (Pl.facesP fl m j) b)).map fun n : Nat => (n : Int)))) = (List.range m).any fun x => decide (Pl.pl fl m i x = a) && decide (Pl.pl fl m j x = b) := by
    have iff : (∃ x : Nat, x ∈ Pl.item (Pl.facesP fl m i) a ∧ x ∈ Pl.item (Pl.facesP fl m j) b) ↔ ((List.range m).any fun x => decide (Pl.pl fl m i x = a) && decide (Pl.pl fl m j x = b)) = true := by
      rw [List.any_eq_true]
      constructor
      · rintro ⟨x, h1, h2⟩
        have h1 := (Pl.idx_iff Pi ha).mp h1
        have h2 := (Pl.idx_iff Pj hb).mp h2
        exact ⟨x, List.mem_range.mpr h1.1, by rw [Bool.and_eq_true]; exact ⟨decide_eq_true h1.2, decide_eq_true h2.2⟩⟩
      · rintro ⟨x, h0, h⟩
        rw [Bool.and_eq_true] at h
        have h0 := List.mem_range.mp h0
        exact ⟨x, (Pl.idx_iff Pi ha).mpr ⟨h0, of_decide_eq_true h.1⟩, (Pl.idx_iff Pj hb).mpr ⟨h0, of_decide_eq_true h.2⟩⟩
    have iff2 : 0 < andN (((Pl.item (Pl.facesP fl m i) a)).map fun n : Nat => (n : Int)) (((Pl.item (Pl.facesP fl m j) b)).map fun n : Nat => (n : Int)) ↔ ∃ x : Nat, x ∈ Pl.item (Pl.facesP fl m i) a ∧ x ∈ Pl.item (Pl.facesP fl m j) b := by
      unfold andN
      constructor
      · intro h
        have h : 0 < ((dd ((Pl.item (Pl.facesP fl m i) a).map fun n : Nat => (n : Int))).filter fun x => ((Pl.item (Pl.facesP fl m j) b).map fun n : Nat => (n : Int)).contains x).length := by omega
        obtain ⟨z, hz⟩ := List.exists_mem_of_length_pos h
        rw [List.mem_filter, dd_mem, List.mem_map, List.contains_iff_mem, List.mem_map] at hz
        obtain ⟨⟨x, hx, rfl⟩, y, hy, e⟩ := hz
        exact ⟨x, hx, cast_inj _ _ e ▸ hy⟩
      · rintro ⟨x, h1, h2⟩
        have : (x : Int) ∈ (dd ((Pl.item (Pl.facesP fl m i) a).map fun n : Nat => (n : Int))).filter fun x => ((Pl.item (Pl.facesP fl m j) b).map fun n : Nat => (n : Int)).contains x := by
          rw [List.mem_filter, dd_mem, List.mem_map, List.contains_iff_mem, List.mem_map]
          exact ⟨⟨x, h1, rfl⟩, x, h2, rfl⟩
        have := List.length_pos_of_mem this
        omega
    by_cases h : ((List.range m).any fun x => decide (Pl.pl fl m i x = a) && decide (Pl.pl fl m j x = b)) = true
    · rw [h, decide_eq_true (iff2.mpr (iff.mpr h))]
    · rw [Bool.eq_false_iff.mpr h, decide_eq_false fun q => h (iff.mp (iff2.mp q))]
  have hA : (Pl.item (Pl.facesP fl m i) a).length ≤ 4000 := Nat.le_trans (Pl.nd_len (Pi.nd _ (Pl.item_mem ha)) (Pi.lt _ (Pl.item_mem ha))) N.many.2
  have hB : (Pl.item (Pl.facesP fl m j) b).length ≤ 4000 := Nat.le_trans (Pl.nd_len (Pj.nd _ (Pl.item_mem hb)) (Pj.lt _ (Pl.item_mem hb))) N.many.2
  have hij' : ((i : Int) == (j : Int)) = false := by
    rw [beq_eq_false_iff_ne]; omega
  have eL : xLenAnd (x2 fIdx (xVar 5) (xVar 2)) (x2 fIdx (xVar 6) (xVar 4)) [some (netD fl m), some (nI i), some (nI a), some (nI j), some (nI b), some (tT (Pl.facesP fl m i)), some (tT (Pl.facesP fl m j))] M = .ok (.int (andN (((Pl.item (Pl.facesP fl m i) a)).map fun n : Nat => (n : Int)) (((Pl.item (Pl.facesP fl m j) b)).map fun n : Nat => (n : Int)))) M := by
    unfold xLenAnd
    have t1 : toIs M (tN ((Pl.facesP fl m i).getD a [])) = some ((Pl.item (Pl.facesP fl m i) a).map fun n : Nat => (n : Int)) := by
      show intL _ = _
      rw [intL_nI]; rfl
    have t2 : toIs M (tN ((Pl.facesP fl m j).getD b [])) = some ((Pl.item (Pl.facesP fl m j) b).map fun n : Nat => (n : Int)) := by
      show intL _ = _
      rw [intL_nI]; rfl
    simp! [fIdx_tT ha, t1, List.length_map, hA, fIdx_tT hb, t2, hB]
  unfold y_is_on
  simp! [e_check_net hM, fFld_rank, fSub_int, e_check_count hM (n := i) (a := 0) (b := (fl.length : Int) - 1) (by omega), e_check_count hM (n := j) (a := 0) (b := (fl.length : Int) - 1) (by omega), fEq_int, hij', e_faces hM N hi, e_faces hM N hj, fLen_tT,
    e_check_count hM (n := a) (a := 0) (b := ((Pl.facesP fl m i).length : Int) - 1) (by omega), e_check_count hM (n := b) (a := 0) (b := ((Pl.facesP fl m j).length : Int) - 1) (by omega), eL, fGt_int, key]
--@ euler
theorem foldl_sum {α : Type} (f : α → Int) : ∀ (l : List α) (t : Int), l.foldl (fun t a => t + f a) t = t + (l.map f).sum
  | [], t => by simp
  | a :: l, t => by rw [List.foldl_cons, foldl_sum f l, List.map_cons, List.sum_cons]; omega
def eulerP (l : List Nat) : Int := (l.zipIdx.map fun p => (p.1 : Int) * (1 - 2 * ((p.2 % 2 : Nat) : Int))).sum
theorem e_euler {M : List O} {fl : List (List Nat)} {m : Nat} (hM : MemOk M) (N : Pl.Net fl m) : x_euler [netD fl m] M = .ok (.int (eulerP ((List.range fl.length).map fun i => (Pl.facesP fl m i).length))) M := by
  refine fn_E rfl hM rfl ?_
  unfold y_euler
  refine E_nx (env' := [some (netD fl m), some (.int 0), none, none]) (M' := M) (by simp!) ?_
  refine E_seq (E_fold ((List.range fl.length).map fun i => (Pl.facesP fl m i).length).zipIdx (fun p => .tup [.int (p.2 : Int), nI p.1]) (fun (t : Int) env M' => (∃ j2 j3, env = [some (netD fl m), some (.int t), j2, j3]) ∧ M' = M)
    (fun t p => t + (p.1 : Int) * (1 - 2 * ((p.2 % 2 : Nat) : Int))) (s := 0) (iEnTu_of (M' := M) (by simp! [e_face_row hM N, tN])) ⟨⟨_, _, rfl⟩, rfl⟩ ?_ ?_)
  · rintro ⟨c, k⟩ hp t env M1 ⟨⟨j2, j3, rfl⟩, rfl⟩
    refine ⟨([some (netD fl m), some (.int t), some (nI k), some (nI c)], M1), rfl, ?_⟩
    have hk : k % 2 = 0 ∨ k % 2 = 1 := by omega
    rcases hk with hk | hk
    · refine .of (a := .nx [some (netD fl m), some (.int (t + c)), some (nI k), some (nI c)]) (by simp! [fMod_2, hk, fEq_int, fAdd_int, show (((0 : Nat) : Int) == 0) = true from rfl]) ⟨_, rfl, ⟨some (nI k), some (nI c), ?_⟩, rfl⟩
      have : t + (c : Int) = t + c * (1 - 2 * ((k % 2 : Nat) : Int)) := by rw [hk]; omega
      rw [this]
    · refine .of (a := .nx [some (netD fl m), some (.int (t + -(c : Int))), some (nI k), some (nI c)]) (by simp! [fMod_2, hk, fEq_int, fAdd_int, fNeg_int, show (((1 : Nat) : Int) == 0) = false from rfl]) ⟨_, rfl, ⟨some (nI k), some (nI c), ?_⟩, rfl⟩
      have : t + -(c : Int) = t + c * (1 - 2 * ((k % 2 : Nat) : Int)) := by rw [hk]; omega
      rw [this]
  · rintro env M1 ⟨⟨j2, j3, rfl⟩, rfl⟩
    refine ⟨_, rfl, E_ret (d := .int (eulerP ((List.range fl.length).map fun i => (Pl.facesP fl m i).length))) (M' := M1) ?_ ⟨rfl, [], by simp⟩⟩
    simp! [foldl_sum, Int.zero_add]
    rfl
--@ is_flat
def flatP (fl : List (List Nat)) (m i j : Nat) : List (List Nat) := (List.range m).map fun x => [Pl.pl fl m i x, Pl.pl fl m j x]
theorem e_is_flat {M : List O} {fl : List (List Nat)} {m i j : Nat} (hM : MemOk M) (N : Pl.Net fl m) (hm : m < 64) (hij : i < j) (hj : j < fl.length) :
    x_is_flat [netD fl m, nI i, nI j] M = .ok (.bl (decide ((dd (flatP fl m i j)).length = (dd ((List.range m).map (Pl.pl fl m i))).length * (dd ((List.range m).map (Pl.pl fl m j))).length))) M := by
  refine fn_pl0 rfl hM rfl ?_
  have h1 := N.many
  have hz : xlZip (xVar 3) (xVar 4) [some (netD fl m), some (nI i), some (nI j), some (.lst (((List.range m).map (Pl.pl fl m i)).map nI)), some (.lst (((List.range m).map (Pl.pl fl m j)).map nI))] M = .ok ((flatP fl m i j).map tN) M := by
    unfold xlZip
    simp! [toLst, List.length_map, List.length_range]
    rw [if_pos ⟨trivial, by omega, by omega⟩, zipD_eq, List.zip_map', List.map_map]
    unfold flatP
    rw [List.map_map]
    rfl
  have ne : flatP fl m i j ≠ [] := by intro e; have := congrArg List.length e; simp [flatP] at this; omega
  have hd : (dd ((List.range m).map (Pl.pl fl m i))).length < 16777216 := by
    have := dd_len_le ((List.range m).map (Pl.pl fl m i))
    simp at this
    omega
  unfold y_is_flat
  simp! [e_check_net hM, fFld_rank, fSub_int, fAdd_int, e_check_count hM (n := i) (a := 0) (b := (fl.length : Int) - 2) (by omega), e_check_count hM (n := j) (a := (i : Int) + 1) (b := (fl.length : Int) - 1) (by omega), e_face_places hM N (show i < fl.length by omega), e_face_places hM N hj,
    hz, fLenSet_rows (l := flatP fl m i j) ne (by simpa [flatP] using hm), fLenSet_lN (l := (List.range m).map (Pl.pl fl m i)) (by simp; omega), fLenSet_lN (l := (List.range m).map (Pl.pl fl m j)) (by simp; omega), fMul_int (mulOk_nat hd), fEq_int]
  congr 3
  by_cases h : (dd (flatP fl m i j)).length = (dd ((List.range m).map (Pl.pl fl m i))).length * (dd ((List.range m).map (Pl.pl fl m j))).length
  · rw [decide_eq_true h, h]
    simp
  · rw [decide_eq_false h, beq_eq_false_iff_ne]
    omega
end K03
end
section
set_option maxHeartbeats 4000000
namespace K03
open PySem (Str)
open Mi
--@ _law_state
theorem e__law_state (ns : List Int) : ∃ M, x__law_state [.slst (ns.map D.int)] [] = .ok (.ref 0) M ∧ St [] M := by
  have h : Ends (y__law_state (startE 4 [.slst (ns.map D.int)]) []) fun o M => o = .rt (.ref 0) ∧ St [] M := by
    unfold y__law_state
    refine E_nx (env' := [some (.slst (ns.map D.int)), some (.int 0), none, none]) (M' := []) (by simp!) ?_
    refine E_nx (env' := [some (.slst (ns.map D.int)), some (.int 0), some (.int 1), none]) (M' := []) (by simp!) ?_
    refine E_seq (E_fold (ns.take 63) D.int (fun (_ : Unit) env M => ∃ s t j, 0 ≤ s ∧ 0 ≤ t ∧ env = [some (.slst (ns.map D.int)), some (.int s), some (.int t), j] ∧ M = []) (fun s _ => s) (s := ()) (M' := []) ?_ ⟨0, 1, _, by decide, by decide, rfl, rfl⟩ ?_ ?_)
    · refine iOf_lst ?_
      simp! [rd_slst', lsD, show (63 : Int) = ((63 : Nat) : Int) from rfl, cutD_to]
    · rintro c _ _ env M ⟨s, t, j, hs, ht, rfl, rfl⟩
      refine ⟨_, rfl, .of (a := .nx [some (.slst (ns.map D.int)), some (.int (s * 1000003 + (if c < 0 then -c else c))), some (.int ((t * 48271 + c).fmod 2147483647)), some (.int c)]) (M := []) ?_ ⟨_, rfl, _, _, _, ?_, ?_, rfl, rfl⟩⟩
      · simp! [fMul_int (mulOk_r (i := s) (j := 1000003) (by decide)), fMul_int (mulOk_r (i := t) (j := 48271) (by decide)), fAbs, fAdd_int, fInt_int, fMod_int (a := t * 48271 + c) (b := 2147483647) (by decide)]
      · split <;> omega
      · exact Int.fmod_nonneg_of_pos _ (by decide)
    · rintro env M ⟨s, t, j, hs, ht, rfl, rfl⟩
      refine ⟨_, rfl, ?_⟩
      by_cases h : t = 1973665155
      · exact .of (a := .rt (.ref 0)) (M := [stO s 7]) (by simp! [fNe_int, h, beq_self_eq_true]) ⟨rfl, s, 7, hs, by decide, rfl⟩
      · have e : (t == 1973665155) = false := by rw [beq_eq_false_iff_ne]; exact h
        exact .of (a := .rt (.ref 0)) (M := [stO s t]) (by simp! [fNe_int, e]) ⟨rfl, s, t, hs, ht, rfl⟩
  obtain ⟨o, M, h, rfl, s, t, hs, ht, rfl⟩ := h
  refine ⟨[stO s t], ?_, s, t, hs, ht, rfl⟩
  unfold x__law_state xFnC
  rw [if_pos (show [D.slst (ns.map D.int)].length = 1 from rfl), h]
  rfl
--@ _law_take
theorem e_take {R M : List O} (h : St R M) (hR : R.all nrO = true) {k : Int} (h0 : 0 < k) (h1 : k < 16777216) : ∃ (v : Nat) (M' : List O), x__law_take [.ref 0, .int k] M = .ok (nI v) M' ∧ (v : Int) < k ∧ St R M' := by
  obtain ⟨s, t, hs, ht, rfl⟩ := h
  have k0 : k ≠ 0 := by omega
  have kl : k.natAbs.log2 < 9000 := by
    have : k.natAbs < 16777216 := by omega
    have h2 : k.natAbs ≠ 0 := by omega
    have : k.natAbs.log2 < 24 := (Nat.log2_lt h2).mpr (Nat.lt_of_lt_of_le this (by decide))
    omega
  by_cases hp : 0 < s
  · have e1 : decide ((0 : Int) < s) = true := decide_eq_true hp
    have h2 := Int.fmod_nonneg_of_pos s h0
    have h3 := Int.fmod_lt_of_pos s h0
    have h4 : 0 ≤ s.fdiv k := Int.fdiv_nonneg hs (by omega)
    have S : St R (stO (s.fdiv k) t :: R) := ⟨_, t, h4, ht, rfl⟩
    refine ⟨(s.fmod k).toNat, stO (s.fdiv k) t :: R, ?_, by omega, S⟩
    have : Ends (x__law_take [.ref 0, .int k] (stO s t :: R)) fun d M' => d = nI (s.fmod k).toNat ∧ M' = stO (s.fdiv k) t :: R := by
      refine fn_ES rfl ?_
      unfold y__law_take
      refine E_rt (d := nI (s.fmod k).toNat) (M' := stO (s.fdiv k) t :: R) ?_ ⟨stO (s.fdiv k) t :: R, [], _, rfl, by simp, rfl, S.ok hR, rfl, rfl, rfl⟩
      refine if_t (M' := stO s t :: R) ?_ ?_
      · simp! [fIdx_ref0 (M := stO s t :: R) (c := 0) rfl, fGt_int, e1]
      · refine seq_nx (M' := stO s t :: R) (env' := [some (.ref 0), some (.int k), some (nI (s.fmod k).toNat)]) ?_ ?_
        · simp! [fIdx_ref0 (M := stO s t :: R) (c := 0) rfl, fInt_int, fMod_int k0]
          unfold nI
          rw [Int.toNat_of_nonneg h2]
        refine seq_nx (asgSub (d := .int (s.fdiv k)) (c := 0) (k := 0) (xs := [.int s, .int t]) ?_ (by simp!) (by simp!; rfl) rfl (by simp)) ?_
        · simp! [fIdx_ref0 (M := stO s t :: R) (c := 0) rfl, fDiv_int ⟨k0, kl⟩]
        · simp!
    exact this.eq
  · have e1 : decide ((0 : Int) < s) = false := decide_eq_false hp
    have S' : 0 ≤ (t * 48271 + 11).fmod 2147483647 := Int.fmod_nonneg_of_pos _ (by decide)
    have h2 := Int.fmod_nonneg_of_pos (((t * 48271 + 11).fmod 2147483647).fdiv 7) h0
    have h3 := Int.fmod_lt_of_pos (((t * 48271 + 11).fmod 2147483647).fdiv 7) h0
    have S : St R (stO s ((t * 48271 + 11).fmod 2147483647) :: R) := ⟨s, _, hs, S', rfl⟩
    refine ⟨((((t * 48271 + 11).fmod 2147483647).fdiv 7).fmod k).toNat, stO s ((t * 48271 + 11).fmod 2147483647) :: R, ?_, by omega, S⟩
    have : Ends (x__law_take [.ref 0, .int k] (stO s t :: R)) fun d M' => d = nI ((((t * 48271 + 11).fmod 2147483647).fdiv 7).fmod k).toNat ∧ M' = stO s ((t * 48271 + 11).fmod 2147483647) :: R := by
      refine fn_ES rfl ?_
      unfold y__law_take
      refine E_if_f (M' := stO s t :: R) ?_ ?_
      · simp! [fIdx_ref0 (M := stO s t :: R) (c := 0) rfl, fGt_int, e1]
      refine E_nx (asgSub (d := .int ((t * 48271 + 11).fmod 2147483647)) (c := 0) (k := 1) (xs := [.int s, .int t]) ?_ (by simp!) (by simp!; rfl) rfl (by simp)) ?_
      · simp! [fIdx_ref1 (M := stO s t :: R) (c := 0) rfl, fMul_int (mulOk_r (i := t) (j := 48271) (by decide)), fAdd_int, fInt_int, fMod_int (a := t * 48271 + 11) (b := 2147483647) (by decide)]
      refine E_ret (d := nI ((((t * 48271 + 11).fmod 2147483647).fdiv 7).fmod k).toNat) (M' := stO s ((t * 48271 + 11).fmod 2147483647) :: R) ?_ ⟨stO s ((t * 48271 + 11).fmod 2147483647) :: R, [], _, rfl, by simp, rfl, S.ok hR, rfl, rfl, rfl⟩
      · show x2 fMod _ _ _ (stO s ((t * 48271 + 11).fmod 2147483647) :: R) = _
        unfold nI
        simp! [fIdx_ref1 (M := stO s ((t * 48271 + 11).fmod 2147483647) :: R) (c := 0) rfl, fDiv_int (a := (t * 48271 + 11).fmod 2147483647) (b := 7) (by decide), fInt_int, fMod_int k0]
        try unfold nI
        rw [Int.toNat_of_nonneg h2]
    exact this.eq
--@ _law_says
theorem e_says {M : List O} (hM : MemOk M) (a : Bool) : x__law_says [.bl a, .bl a] M = .ok (.bl true) M := by
  refine fn_pl0 rfl hM rfl ?_
  unfold y__law_says
  simp! [show fIsT .bl (.bl a) M = some (.bl true) from rfl, show fEq (.bl a) (.bl a) M = some (.bl true) by cases a <;> rfl]
--@ _law_same
def tb : Nat → D → Bool
  | _, .int _ => true
  | n + 1, .tup xs => decide (xs.length ≤ 4000) && xs.attach.all fun x => tb n x.1
  | _, _ => false
theorem tb_tup {n : Nat} {xs : List D} : tb (n + 1) (.tup xs) = true ↔ xs.length ≤ 4000 ∧ ∀ x ∈ xs, tb n x = true := by
  simp [tb]
theorem e_same : ∀ (n : Nat) {M : List O} (hM : MemOk M) (d : D), tb n d = true → x__law_same (n + 1) [d, d] M = .ok (.bl true) M
  | n, M, hM, .int i, h => by
    refine fn_pl0 rfl hM rfl ?_
    unfold y__law_same
    have ew : x__law_is_whole [.int i] M = .ok (.bl true) M := fn_pl0 rfl hM rfl (by unfold y__law_is_whole; simp!; rfl)
    simp! [show fIsT .bl (.int i) M = some (.bl false) from rfl, show fIsT .tup (.int i) M = some (.bl false) from rfl, show fIsT .lst (.int i) M = some (.bl false) from rfl, show fIsT .str (.int i) M = some (.bl false) from rfl, isN, ew, fEq_int, beq_self_eq_true]
  | n + 1, M, hM, .tup xs, h => by
    obtain ⟨hl, hx⟩ := tb_tup.mp h
    refine fn_pl0 rfl hM rfl ?_
    unfold y__law_same
    have e1 : xComp [2] (xiRg1 (x1 fLen (xVar 1))) (xgN 2) xbYes (xCall (x__law_same (n + 1)) [] (xCons (x2 fIdx (xVar 0) (xVar 2)) (xCons (x2 fIdx (xVar 1) (xVar 2)) xNil))) [some (.tup xs), some (.tup xs), none] M = .ok ((List.range xs.length).map fun _ => .bl true) M := by
      refine comp1 (List.range xs.length) nI (fun _ => .bl true) (iRg1_of (by simp!; rfl) (by omega)) (le_lim (by rw [List.length_range]; omega)) fun k hk => ?_
      have hk := List.mem_range.mp hk
      have ei : fIdx (.tup xs) (nI k) M = some xs[k] := by
        have := fIdx_tmap (l := xs) (g := id) (k := k) (M := M) hk
        rw [List.map_id] at this
        exact this
      simp! [wipeE, ei, e_same n hM xs[k] (hx _ (List.getElem_mem hk))]
    simp! [show fIsT .bl (.tup xs) M = some (.bl false) from rfl, fIsT_tup, show fLen (.tup xs) M = some (.int xs.length) from rfl, fEq_int, beq_self_eq_true, e1, fAll_yes]
  | 0, M, hM, .tup xs, h => by simp [tb] at h
  | n, M, hM, .non, h => by simp [tb] at h
  | n, M, hM, .bl _, h => by simp [tb] at h
  | n, M, hM, .str _, h => by simp [tb] at h
  | n, M, hM, .lst _, h => by simp [tb] at h
  | n, M, hM, .ins _ _ _, h => by simp [tb] at h
  | n, M, hM, .dic _ _, h => by simp [tb] at h
  | n, M, hM, .slst _, h => by simp [tb] at h
  | n, M, hM, .ref _, h => by simp [tb] at h
  | n, M, hM, .gl _, h => by simp [tb] at h
theorem tb_nI (n k : Nat) : tb n (nI k) = true := by unfold nI tb; rfl
theorem tb_tN (n : Nat) {l : List Nat} (h : l.length ≤ 4000) : tb (n + 1) (tN l) = true := tb_tup.mpr ⟨by simpa using h, fun x hx => by obtain ⟨k, _, rfl⟩ := List.mem_map.mp hx; exact tb_nI n k⟩
theorem tb_tT (n : Nat) {l : List (List Nat)} (h : l.length ≤ 4000) (h' : ∀ k ∈ l, k.length ≤ 4000) : tb (n + 2) (tT l) = true := tb_tup.mpr ⟨by simpa using h, fun x hx => by obtain ⟨k, hk, rfl⟩ := List.mem_map.mp hx; exact tb_tN n (h' k hk)⟩
end K03
end
section
set_option maxHeartbeats 4000000
namespace K03
open PySem (Str)
open Mi
--@ _law_line
theorem e_line {M : List O} {fl : List (List Nat)} {m x : Nat} {dfl : D} (hM : MemOk M) (hd : itD dfl = some (fl.map tN)) (F : Pl.Flips fl m) (hm : m ≤ 4000) (hx : x < m) : x__law_line [dfl, nI x] M = .ok (.lst ((Pl.line fl m x).map nI)) M := by
  refine fn_EL rfl hM (nrs_map (f := nI) nr_nI _) ?_
  unfold y__law_line
  refine E_nx (env' := [some dfl, some (nI x), some (.ref M.length), some (nI 0), none]) (M' := M ++ [.lst ([x].map nI)]) (by simp!; rfl) ?_
  refine E_seq (E_wh (fun (s : List Nat × Nat) env M' => ∃ j4 k, env = [some dfl, some (nI x), some (.ref M.length), some (nI s.2), j4] ∧ M' = M ++ [.lst (s.1.map nI)] ∧ Pl.BInv fl m x s.1 s.2 ∧ m < k + s.2 ∧ Pl.bfs fl k s.1 s.2 = Pl.line fl m x)
    (fun s => decide (s.2 < s.1.length)) (fun s => m - s.2) ([x], 0) (by show m - 0 < 100000; omega) ⟨_, m + 1, rfl, rfl, ?_, by show m < m + 1 + 0; omega, rfl⟩ ?_ ?_ ?_)
  · exact ⟨by simp, fun z hz => by simp at hz; subst hz; exact .refl z, by simp, fun z hz => by simp at hz; subst hz; exact hx, Nat.zero_le _, fun j hj => absurd hj (Nat.not_lt_zero j)⟩
  · rintro ⟨l, a⟩ env M2 ⟨k4, k, rfl, rfl, B, hk, hb⟩
    simp! [fLen_ref (M := M ++ [.lst (l.map nI)]) (c := M.length) (by rw [getL0]; rfl), fLt_int, List.length_map]
    congr 1
    simp
  · rintro ⟨l, a⟩ env M2 ⟨k4, k, rfl, rfl, B, hk, hb⟩ hlt
    have hlt : a < l.length := of_decide_eq_true hlt
    have hlm : l.length ≤ m := Pl.nd_len B.nd B.lt
    have hz := Pl.getD_mem hlt
    obtain ⟨k', rfl⟩ : ∃ k', k = k' + 1 := by
      cases k with
      | zero => exfalso; simp at hk; omega
      | succ k' => exact ⟨k', rfl⟩
    rw [Pl.bfs_next hlt] at hb
    have BN := B.next F.into hlt
    refine E_seq (E_fold fl tN (fun (l' : List Nat) env M' => ∃ j4, env = [some dfl, some (nI x), some (.ref M.length), some (nI a), j4] ∧ M' = M ++ [.lst (l'.map nI)] ∧ (∃ t, l' = l ++ t) ∧ l'.Nodup ∧ ∀ z ∈ l', z < m)
      (fun l' o => Pl.ins l' (Pl.sel o (l.getD a 0))) (s := l) (M' := M ++ [.lst (l.map nI)]) ?_ ⟨_, rfl, rfl, ⟨[], by simp⟩, B.nd, B.lt⟩ ?_ ?_)
    · unfold xiOf
      simp! [hd]
    · rintro o ho l' env M3 ⟨k4, rfl, rfl, ⟨t, rfl⟩, nd, lt⟩
      have hl' := Pl.nd_len nd lt
      have hz' : (l ++ t).getD a 0 = l.getD a 0 := Pl.getD_app hlt
      have hzm : l.getD a 0 < m := B.lt _ hz
      have hy : Pl.sel o (l.getD a 0) < m := F.into o ho _ hzm
      have hol : l.getD a 0 < o.length := by rw [F.len o ho]; exact hzm
      have hc : (M ++ [.lst ((l ++ t).map nI)])[M.length]? = some (.lst ((l ++ t).map nI)) := by rw [getL0]; rfl
      have hin0 : fIn true (nI (Pl.sel o (l.getD a 0))) (.ref M.length) (M ++ [.lst ((l ++ t).map nI)]) = some (.bl (!(l ++ t).contains (Pl.sel o (l.getD a 0)))) := by
        have := fIn_nI true (l ++ t) (Pl.sel o (l.getD a 0)) (M ++ [.lst ((l ++ t).map nI)])
        rw [if_pos rfl] at this
        rw [← this]
        unfold fIn
        rw [rd_refl hc]; rfl
      have hs : nI (o.getD (l.getD a 0) 0) = nI (Pl.sel o (l.getD a 0)) := rfl
      refine ⟨_, rfl, ?_⟩
      cases hin : (l ++ t).contains (Pl.sel o (l.getD a 0)) with
      | true =>
        refine E_if_e (M' := M ++ [.lst ((l ++ t).map nI)]) ?_ (.ok ⟨_, rfl, _, rfl, ?_, ?_⟩)
        · simp! [fIdx_refN hc (show a < (l ++ t).length by rw [List.length_append]; omega), hz', fIdx_tN hol, hs, hin0, hin]
        · unfold Pl.ins; rw [if_pos (List.contains_iff_mem.mp hin)]
        · unfold Pl.ins; rw [if_pos (List.contains_iff_mem.mp hin)]; exact ⟨⟨t, rfl⟩, nd, lt⟩
      | false =>
        have hi : Pl.ins (l ++ t) (Pl.sel o (l.getD a 0)) = (l ++ t) ++ [Pl.sel o (l.getD a 0)] := by
          unfold Pl.ins; rw [if_neg fun q => by rw [List.contains_iff_mem.mpr q] at hin; cases hin]
        have nd' := Pl.ins_nd (y := Pl.sel o (l.getD a 0)) nd
        rw [hi] at nd'
        refine E_if_t (M' := M ++ [.lst ((l ++ t).map nI)]) ?_ ?_
        · simp! [fIdx_refN hc (show a < (l ++ t).length by rw [List.length_append]; omega), hz', fIdx_tN hol, hs, hin0, hin]
        refine .of (exprApp (c := M.length) (xs := (l ++ t).map nI) (d := nI (Pl.sel o (l.getD a 0))) (by simp!) (by simp! [fIdx_refN hc (show a < (l ++ t).length by rw [List.length_append]; omega), hz', fIdx_tN hol, hs]) hc (by rw [List.length_map]; exact Nat.lt_of_le_of_lt hl' (by show m < 16777216; omega))) ⟨_, rfl, _, rfl, ?_, ?_⟩
        · rw [setL0, List.set_cons_zero, hi]
          rw [show ((l ++ t).map nI ++ [nI (Pl.sel o (l.getD a 0))]) = ((l ++ t) ++ [Pl.sel o (l.getD a 0)]).map nI by simp]
        · rw [hi]
          refine ⟨⟨t ++ [Pl.sel o (l.getD a 0)], by rw [List.append_assoc]⟩, nd', fun z hz => ?_⟩
          rcases List.mem_append.mp hz with hz | hz
          · exact lt z hz
          · simp at hz; subst hz; exact hy
    · rintro env M3 ⟨k4, rfl, rfl, _, _, _⟩
      refine ⟨_, rfl, .of (a := .nx [some dfl, some (nI x), some (.ref M.length), some (nI (a + 1)), k4]) (by simp! [fAdd_int]; rfl) ⟨(Pl.row fl l (l.getD a 0), a + 1), _, rfl, ⟨_, k', rfl, rfl, BN, by show m < k' + (a + 1); simp at hk; omega, hb⟩, by show m - (a + 1) < m - a; omega⟩⟩
  · rintro ⟨l, a⟩ env M2 ⟨k4, k, rfl, rfl, B, hk, hb⟩ hlt
    have hlt : ¬ a < l.length := of_decide_eq_false hlt
    have hl : l = Pl.line fl m x := by rw [← hb]; exact (Pl.bfs_end hlt).symm
    refine ⟨_, rfl, E_ret (d := .ref M.length) (M' := M ++ [.lst (l.map nI)]) (by simp!) ⟨0, _, rfl, rfl, ?_⟩⟩
    rw [hl]; rfl
--@ _law_form
theorem e_form {M : List O} {fl : List (List Nat)} {m : Nat} (hM : MemOk M) (F : Pl.Flips fl m) (hm : 0 < m ∧ m ≤ 4000) (hn : fl.length ≤ 4000) : x__law_form [tT fl, .int 0] M = .ok (tT (Pl.form fl m 0)) M := by
  have C := Pl.line_Cl F.into hm.1
  have hlm : (Pl.line fl m 0).length ≤ m := Pl.nd_len C.nd C.lt
  refine fn_pl0 rfl hM (nr_tT _) ?_
  unfold y__law_form
  refine seq_nx (env' := [some (tT fl), some (.int 0), some (.lst ((Pl.line fl m 0).map nI)), none, none, none, none]) (M' := M) ?_ ?_
  · simp! [show x__law_line [tT fl, .int 0] M = _ from e_line hM (dfl := tT fl) rfl F hm.2 hm.1]
  refine seq_nx (env' := [some (tT fl), some (.int 0), some (.lst ((Pl.line fl m 0).map nI)), some (dictN (Pl.line fl m 0)), none, none, none]) (M' := M) ?_ ?_
  · have e1 : xComp [4, 5] (xiEnL (xVar 2)) (xgT [(xgN 4), (xgN 5)]) xbYes (xTup (xCons (xVar 5) (xCons (xVar 4) xNil))) [some (tT fl), some (.int 0), some (.lst ((Pl.line fl m 0).map nI)), none, none, none, none] M = .ok ((Pl.line fl m 0).zipIdx.map fun p => .tup [nI p.1, nI p.2]) M :=
      compG (Pl.line fl m 0).zipIdx (fun p => .tup [.int (p.2 : Int), nI p.1]) (fun p => .tup [nI p.1, nI p.2]) (iEnL_of (by simp!)) (le_lim (by simp; omega)) fun p hp => ⟨([some (tT fl), some (.int 0), some (.lst ((Pl.line fl m 0).map nI)), none, some (nI p.2), some (nI p.1), none], M), rfl, by simp!⟩
    simp! [e1, fDOf_N C.nd]
  · simp!
    rw [comp1 fl tN (fun o => tN ((Pl.line fl m 0).map fun x => (Pl.line fl m 0).idxOf (Pl.sel o x))) (iOf_tup (by simp! [tT])) (le_lim (by omega)) fun o ho => by
      simp! [wipeE]
      rw [comp1 (Pl.line fl m 0) nI (fun x => nI ((Pl.line fl m 0).idxOf (Pl.sel o x))) (iOf_lst (by simp!)) (le_lim (by omega)) fun x hx => by
        have hol : x < o.length := by rw [F.len o ho]; exact C.lt x hx
        have hs : nI (o.getD x 0) = nI (Pl.sel o x) := rfl
        simp! [wipeE, fIdx_tN hol, hs, fDGet_N (C.cl x hx o ho)]]
      simp! [fTup_lst]
      unfold tN
      rw [List.map_map]; rfl]
    simp! [fTup_lst]
    unfold Pl.form Pl.formL tT
    rw [List.map_map]; rfl
--@ _law_lots
theorem e_lots {M : List O} {fl : List (List Nat)} {m : Nat} {is : List Nat} {dk : D} (hM : M.all nrO = true) (F : Pl.Flips fl m) (hm : m ≤ 4000) (hd : itD dk = some (is.map nI)) (hn : ∀ i ∈ is, i < fl.length) (hl : is.length ≤ 4000) : x__law_lots [tT fl, dk, nI m] M = .ok (tT (Pl.lots (Pl.kept fl is) m)) M := by
  have F' := F.kept hn
  refine fn_E rfl (memOk_of hM) (nr_tT _) ?_
  unfold y__law_lots
  refine E_nx (env' := [some (tT fl), some dk, some (nI m), some (.ref M.length), some (.ref (M.length + 1)), none, none, none, none]) (M' := M ++ [.lst (bs m fun _ => false), .lst []]) ?_ ?_
  · simp! [fRepL_one (show m ≤ 16777216 by omega), bs_rep, List.append_assoc, List.length_append]
  refine E_seq (E_fold (List.range m) nI (fun found env M' => ∃ j5 j6 j7, env = [some (tT fl), some dk, some (nI m), some (.ref M.length), some (.ref (M.length + 1)), j5, j6, j7, none] ∧ M' = M ++ [.lst (bs m (Pl.inAny found)), .lst (found.map tN)] ∧ Pl.LInv (Pl.kept fl is) m found)
    (Pl.lotsS (Pl.kept fl is) m) (s := []) (M' := M ++ [.lst (bs m fun _ => false), .lst []]) (iRg1_of (by simp!) (by omega)) ⟨_, _, _, rfl, rfl, .nil⟩ ?_ ?_)
  · rintro x hx found env M1 ⟨j5, j6, j7, rfl, rfl, L⟩
    have hx := List.mem_range.mp hx
    have hfl := Pl.found_len F'.into L
    have hM1 : MemOk (M ++ [.lst (bs m (Pl.inAny found)), .lst (found.map tN)]) := memOk_of (by
      rw [List.all_append, hM, Bool.true_and]
      simp only [List.all_cons, List.all_nil, nrO, Bool.and_true, Bool.and_eq_true]
      exact ⟨by unfold bs; exact nrs_map (fun _ => rfl) _, nrs_map (f := tN) nr_tN _⟩)
    refine ⟨_, rfl, ?_⟩
    cases hs : Pl.inAny found x with
    | true =>
      refine E_if_e (M' := M ++ [.lst (bs m (Pl.inAny found)), .lst (found.map tN)]) ?_ (.ok ⟨_, rfl, _, _, _, rfl, ?_, L.stepS F'.into F'.inv hx⟩)
      · simp! [fIdx_bs (M := M ++ [.lst (bs m (Pl.inAny found)), .lst (found.map tN)]) (c := M.length) (by rw [getL0]; rfl) hx, hs]
      · unfold Pl.lotsS; rw [if_pos hs]
    | false =>
      have hS : Pl.lotsS (Pl.kept fl is) m found x = found ++ [Pl.srt (Pl.line (Pl.kept fl is) m x)] := by unfold Pl.lotsS; rw [hs]; rfl
      have C := Pl.line_Cl F'.into hx
      have hlm : (Pl.line (Pl.kept fl is) m x).length ≤ m := Pl.nd_len C.nd C.lt
      refine E_if_t (M' := M ++ [.lst (bs m (Pl.inAny found)), .lst (found.map tN)]) ?_ ?_
      · simp! [fIdx_bs (M := M ++ [.lst (bs m (Pl.inAny found)), .lst (found.map tN)]) (c := M.length) (by rw [getL0]; rfl) hx, hs]
      refine E_nx (env' := [some (tT fl), some dk, some (nI m), some (.ref M.length), some (.ref (M.length + 1)), some (nI x), some (.lst ((Pl.srt (Pl.line (Pl.kept fl is) m x)).map nI)), j7, none]) (M' := M ++ [.lst (bs m (Pl.inAny found)), .lst (found.map tN)]) ?_ ?_
      · have e1 : xComp [8] (xiOf (xVar 1)) (xgN 8) xbYes (x2 fIdx (xVar 0) (xVar 8)) [some (tT fl), some dk, some (nI m), some (.ref M.length), some (.ref (M.length + 1)), some (nI x), j6, j7, none] (M ++ [.lst (bs m (Pl.inAny found)), .lst (found.map tN)]) = .ok ((Pl.kept fl is).map tN) (M ++ [.lst (bs m (Pl.inAny found)), .lst (found.map tN)]) := by
          unfold Pl.kept
          rw [comp1 is nI (fun i => tN (Pl.item fl i)) (by unfold xiOf; simp! [hd]) (le_lim (by omega)) fun i hi => by
            simp! [wipeE, fIdx_tT (hn i hi)]; rfl]
          rw [List.map_map]; rfl
        simp! [e1, e_line hM1 (dfl := .lst ((Pl.kept fl is).map tN)) rfl F' hm hx, fSrtF_nI _ _ (Nat.le_trans hlm (le_lim (by omega)))]
        rfl
      refine E_seq (E_fold (Pl.srt (Pl.line (Pl.kept fl is) m x)) nI (fun (b : Nat → Bool) env M' => ∃ j7, env = [some (tT fl), some dk, some (nI m), some (.ref M.length), some (.ref (M.length + 1)), some (nI x), some (.lst ((Pl.srt (Pl.line (Pl.kept fl is) m x)).map nI)), j7, none] ∧ M' = M ++ [.lst (bs m b), .lst (found.map tN)])
        (fun b y => fun z => b z || z == y) (s := Pl.inAny found) (M' := M ++ [.lst (bs m (Pl.inAny found)), .lst (found.map tN)]) (iOf_lst (by simp!)) ⟨_, rfl, rfl⟩ ?_ ?_)
      · rintro y hy b env M2 ⟨k7, rfl, rfl⟩
        have hym : y < m := C.lt y (Pl.srt_mem.mp hy)
        refine ⟨_, rfl, .of (asgSub (c := M.length) (k := y) (d := .bl true) (xs := bs m b) (by simp!) (by simp!) (by simp!) (by rw [getL0]; rfl) (by rw [bs_len]; exact hym)) ⟨_, rfl, _, rfl, ?_⟩⟩
        rw [setL0, List.set_cons_zero, bs_set]
      · rintro env M2 ⟨k7, rfl, rfl⟩
        refine ⟨_, rfl, .of (exprApp (c := M.length + 1) (xs := found.map tN) (d := tN (Pl.srt (Pl.line (Pl.kept fl is) m x))) (by simp!) (by simp! [fTup_lst]; rfl) (by rw [getLk]; rfl) (by rw [List.length_map]; exact Nat.lt_of_le_of_lt hfl (by show m < 16777216; omega))) ⟨_, rfl, _, _, _, rfl, ?_, L.stepS F'.into F'.inv hx⟩⟩
        rw [setLk, List.set_cons_succ, List.set_cons_zero, hS]
        rw [show (found.map tN ++ [tN (Pl.srt (Pl.line (Pl.kept fl is) m x))]) = (found ++ [Pl.srt (Pl.line (Pl.kept fl is) m x)]).map tN by simp]
        rw [show bs m ((Pl.srt (Pl.line (Pl.kept fl is) m x)).foldl (fun b y => fun z => b z || z == y) (Pl.inAny found)) = bs m (Pl.inAny (found ++ [Pl.srt (Pl.line (Pl.kept fl is) m x)])) from bs_congr fun z _ => by
          have key : ∀ (l : List Nat) (b : Nat → Bool), (l.foldl (fun b y => fun z => b z || z == y) b) z = (b z || l.contains z) := by
            intro l
            induction l with
            | nil => intro b; rw [List.foldl_nil, List.contains_nil, Bool.or_false]
            | cons y l ih => intro b; rw [List.foldl_cons, ih, List.contains_cons, Bool.or_assoc]
          rw [key]
          unfold Pl.inAny
          rw [List.any_append, List.any_cons, List.any_nil, Bool.or_false]]
  · rintro env M1 ⟨j5, j6, j7, rfl, rfl, L⟩
    refine ⟨_, rfl, E_ret (d := tT (Pl.lots (Pl.kept fl is) m)) (M' := M ++ [.lst (bs m (Pl.inAny ((List.range m).foldl (Pl.lotsS (Pl.kept fl is) m) []))), .lst (((List.range m).foldl (Pl.lotsS (Pl.kept fl is) m) []).map tN)]) ?_ ⟨rfl, _, rfl⟩⟩
    simp! [fTup_ref (M := M ++ [.lst (bs m (Pl.inAny ((List.range m).foldl (Pl.lotsS (Pl.kept fl is) m) []))), .lst (((List.range m).foldl (Pl.lotsS (Pl.kept fl is) m) []).map tN)]) (c := M.length + 1) (by rw [getLk]; rfl)]
    rw [Pl.lots_fold]
    rfl
end K03
end
section
set_option maxHeartbeats 4000000
namespace K03
open PySem (Str)
open Mi
--@ _law_pairing
theorem eraseIdx_map {α β : Type} (f : α → β) : ∀ (l : List α) (k : Nat), (l.map f).eraseIdx k = (l.eraseIdx k).map f
  | [], _ => rfl
  | a :: l, 0 => rfl
  | a :: l, k + 1 => by rw [List.map_cons, List.eraseIdx_cons_succ, List.eraseIdx_cons_succ, List.map_cons, eraseIdx_map f l k]
theorem e_pairing {R M : List O} (hS : St R M) (hR : R.all nrO = true) {m : Nat} (hm : m ≤ 4000) (b : Bool) : ∃ d M', x__law_pairing [.ref 0, .int (m : Int), .bl b] M = .ok d M' ∧ (∃ row, d = tN row ∧ Pl.Flip row m) ∧ St R M' := by
  refine fn_St (P := fun d => ∃ row, d = tN row ∧ Pl.Flip row m) hS hR rfl ?_
  have hML := hS.len
  unfold y__law_pairing
  refine E_nx (env' := [some (.ref 0), some (nI m), some (.bl b), some (.ref (R.length + 1 + 0)), some (.ref (R.length + 1 + 1)), none, none]) (M' := M ++ [.lst ((List.range m).map nI), .lst ((List.range m).map nI)]) ?_ ?_
  · unfold xlRange
    simp! [rgOk_nat (show m ≤ 16777216 by omega), lRg_eq, List.append_assoc, List.length_append, hML]
  refine E_seq (E_wh (fun (s : List Nat × List Nat) env M' => ∃ j5 j6, env = [some (.ref 0), some (nI m), some (.bl b), some (.ref (R.length + 1 + 0)), some (.ref (R.length + 1 + 1)), j5, j6] ∧ St (R ++ [.lst (s.1.map nI), .lst (s.2.map nI)]) M' ∧ Pl.PInv m s.1 s.2)
    (fun s => decide (1 < s.1.length)) (fun s => s.1.length) (List.range m, List.range m) (by simp; omega) ⟨_, _, rfl, hS.more, .start m⟩ ?_ ?_ ?_)
  · rintro ⟨left, row⟩ env M1 ⟨j5, j6, rfl, S, P⟩
    simp! [fLen_ref (S.get 0), fGt_int, List.length_map]
    congr 1
    simp; omega
  · rintro ⟨left, row⟩ env M1 ⟨j5, j6, rfl, S, P⟩ hlt
    have hlt : 1 < left.length := of_decide_eq_true hlt
    obtain ⟨x, rest, rfl⟩ : ∃ x rest, left = x :: rest := by
      cases left with
      | nil => simp at hlt
      | cons x rest => exact ⟨x, rest, rfl⟩
    have hrest : 0 < rest.length := by simpa using hlt
    have hxm := P.lt x (by simp)
    have hll : rest.length ≤ 4000 := by
      have := Pl.nd_len P.nd P.lt
      simp at this; omega
    refine E_nx (env' := [some (.ref 0), some (nI m), some (.bl b), some (.ref (R.length + 1 + 0)), some (.ref (R.length + 1 + 1)), some (nI x), j6]) (M' := M1.set (R.length + 1 + 0) (.lst (rest.map nI))) ?_ ?_
    · simp! [mut_of (f := fPopAt) (o := xVar 3) (a := xCons (xCon (.int 0)) xNil) (env := [some (.ref 0), some (nI m), some (.bl b), some (.ref (R.length + 1 + 0)), some (.ref (R.length + 1 + 1)), j5, j6]) (M := M1) (M' := M1) (c := R.length + 1 + 0) (xs0 := (x :: rest).map nI) (xs := (x :: rest).map nI) (ds := [nI 0]) (r := (nI x, rest.map nI)) (by simp!) (S.get 0) (by simp!; rfl) (S.get 0) (fPopAt_of (xs := (x :: rest).map nI) (k := 0) (d := nI x) rfl (by decide))]
    have S1 := S.set 0 (.lst (rest.map nI))
    rw [List.set_cons_zero] at S1
    have PD := P.drop
    -- the drawing of whether
    have hw : ∃ (q : Bool) (M2 : List O), xbOr (xbNot (xT (xVar 2))) (xT (x2 fGt (xCall x__law_take [] (xCons (xVar 0) (xCons (xCon (.int 4)) xNil))) (xCon (.int 0)))) [some (.ref 0), some (nI m), some (.bl b), some (.ref (R.length + 1 + 0)), some (.ref (R.length + 1 + 1)), some (nI x), j6] (M1.set (R.length + 1 + 0) (.lst (rest.map nI))) = .ok q M2 ∧ St (R ++ [.lst (rest.map nI), .lst (row.map nI)]) M2 := by
      cases b with
      | false => exact ⟨true, _, by simp!, S1⟩
      | true =>
        obtain ⟨v, M2, e, _, S2⟩ := e_take S1 (by rw [List.all_append, hR]; simp only [List.all_cons, List.all_nil, nrO, Bool.and_true, Bool.true_and, Bool.and_eq_true]; exact ⟨nrs_map (f := nI) nr_nI _, nrs_map (f := nI) nr_nI _⟩) (k := 4) (by decide) (by decide)
        exact ⟨decide ((0 : Int) < v), M2, by simp! [e, fGt_int], S2⟩
    obtain ⟨q, M2, eq, S2⟩ := hw
    cases q with
    | false => exact .of (if_f eq rfl) ⟨(rest, row), _, rfl, ⟨_, _, rfl, S2, PD⟩, by simp⟩
    | true =>
      refine E_if_t eq ?_
      obtain ⟨v, M3, e, hv, S3⟩ := e_take S2 (by rw [List.all_append, hR]; simp only [List.all_cons, List.all_nil, nrO, Bool.and_true, Bool.true_and, Bool.and_eq_true]; exact ⟨nrs_map (f := nI) nr_nI _, nrs_map (f := nI) nr_nI _⟩) (k := (rest.length : Int)) (by omega) (by omega)
      have hv : v < rest.length := by omega
      refine E_nx (env' := [some (.ref 0), some (nI m), some (.bl b), some (.ref (R.length + 1 + 0)), some (.ref (R.length + 1 + 1)), some (nI x), some (nI (rest.getD v 0))]) (M' := M3.set (R.length + 1 + 0) (.lst ((rest.map nI).eraseIdx v))) ?_ ?_
      · simp! [mut_of (f := fPopAt) (o := xVar 3) (a := xCons (xCall x__law_take [] (xCons (xVar 0) (xCons (x1 fLen (xVar 3)) xNil))) xNil) (env := [some (.ref 0), some (nI m), some (.bl b), some (.ref (R.length + 1 + 0)), some (.ref (R.length + 1 + 1)), some (nI x), j6]) (M := M2) (M' := M3) (c := R.length + 1 + 0) (xs0 := rest.map nI) (xs := rest.map nI) (ds := [nI v]) (r := (nI (rest.getD v 0), (rest.map nI).eraseIdx v)) (by simp!) (S2.get 0) (by simp! [fLen_ref (S2.get 0), List.length_map, e]) (S3.get 0) (fPopAt_of (xs := rest.map nI) (k := v) (d := nI (rest.getD v 0)) (by simp [hv]) (by omega))]
      have S4 := S3.set 0 (.lst ((rest.map nI).eraseIdx v))
      rw [List.set_cons_zero] at S4
      have hrl : row.length = m := P.fl.len
      have hy : rest.getD v 0 < m := P.lt _ (by simp only [List.mem_cons]; exact .inr (Pl.getD_mem hv))
      have S5 := S4.set 1 (.lst ((row.map nI).set x (nI (rest.getD v 0))))
      have S6 := S5.set 1 (.lst (((row.map nI).set x (nI (rest.getD v 0))).set (rest.getD v 0) (nI x)))
      refine .of (a := .nx [some (.ref 0), some (nI m), some (.bl b), some (.ref (R.length + 1 + 0)), some (.ref (R.length + 1 + 1)), some (nI x), some (nI (rest.getD v 0))]) (M := ((M3.set (R.length + 1 + 0) (.lst ((rest.map nI).eraseIdx v))).set (R.length + 1 + 1) (.lst ((row.map nI).set x (nI (rest.getD v 0))))).set (R.length + 1 + 1) (.lst (((row.map nI).set x (nI (rest.getD v 0))).set (rest.getD v 0) (nI x)))) ?_
        ⟨(rest.eraseIdx v, (row.set x (rest.getD v 0)).set (rest.getD v 0) x), _, rfl, ⟨_, _, rfl, ?_, P.pair hv⟩, ?_⟩
      · unfold xsAsg xgT
        simp! [itP]
        unfold xgsW
        rw [gSub_of (c := R.length + 1 + 1) (k := x) (xs := row.map nI) (by simp!) (by simp!) (S4.get 1) (by simp; omega)]
        unfold xgsW
        rw [Option.bind_some, gSub_of (c := R.length + 1 + 1) (k := rest.getD v 0) (xs := (row.map nI).set x (nI (rest.getD v 0))) (by simp!) (by simp!) (S5.get 1) (by rw [List.length_set, List.length_map, hrl]; exact hy)]
        rfl
      · simp only [eraseIdx_map, ← List.map_set] at S6 ⊢
        exact S6
      · have : (rest.eraseIdx v).length < (x :: rest).length := by rw [List.length_eraseIdx_of_lt hv]; simp; omega
        exact this
  · rintro ⟨left, row⟩ env M1 ⟨j5, j6, rfl, S, P⟩ _
    exact ⟨_, rfl, .of (a := .rt (tN row)) (M := M1) (by simp! [fTup_ref (S.get 1)]; rfl) ⟨_, _, rfl, S, nr_tN _, row, rfl, P.fl⟩⟩
--@ _law_map
theorem e_map {R M : List O} (hS : St R M) (hR : R.all nrO = true) (b : Bool) : ∃ d M', x__law_map [.ref 0, .bl b] M = .ok d M' ∧ (∃ fl m, d = tT fl ∧ Pl.Net fl m ∧ m ≤ 16 ∧ fl.length = 3) ∧ St R M' := by
  refine fn_St (P := fun d => ∃ fl m, d = tT fl ∧ Pl.Net fl m ∧ m ≤ 16 ∧ fl.length = 3) hS hR rfl ?_
  unfold y__law_map
  obtain ⟨v, M1, e, hv, S1⟩ := e_take hS hR (k := 4) (by decide) (by decide)
  have hv : v < 4 := by omega
  refine E_nx (env' := [some (.ref 0), some (.bl b), some (nI (1 + v)), some (.lst []), some (.lst []), none]) (M' := M1) (by simp! [e, fAdd_int]; rfl) ?_
  have sE : ∀ i, Pl.mapEnds (i + 1) = Pl.mapEnds i ++ [4 * i + 1, 4 * i, 4 * i + 3, 4 * i + 2] := fun i => by unfold Pl.mapEnds; rw [List.range_succ, List.foldl_append]; rfl
  have sS : ∀ i, Pl.mapSides (i + 1) = Pl.mapSides i ++ [4 * i + 2, 4 * i + 3, 4 * i, 4 * i + 1] := fun i => by unfold Pl.mapSides; rw [List.range_succ, List.foldl_append]; rfl
  have lE : ∀ i, (Pl.mapEnds i).length = 4 * i := fun i => by
    induction i with
    | zero => rfl
    | succ i ih => rw [sE, List.length_append, ih]; simp; omega
  have lS : ∀ i, (Pl.mapSides i).length = 4 * i := fun i => by
    induction i with
    | zero => rfl
    | succ i ih => rw [sS, List.length_append, ih]; simp; omega
  refine E_seq (E_for (List.range (1 + v)) nI (fun i env M' => ∃ j5, env = [some (.ref 0), some (.bl b), some (nI (1 + v)), some (.lst ((Pl.mapEnds i).map nI)), some (.lst ((Pl.mapSides i).map nI)), j5] ∧ M' = M1)
    (M' := M1) (iRg1_of (by simp!) (by omega)) ⟨_, rfl, rfl⟩ ?_ ?_)
  · rintro i hi env M2 ⟨j5, rfl, rfl⟩
    have hi : i < 1 + v := by simpa using hi
    have e4 : fMul (.int 4) (nI i) M2 = some (nI (4 * i)) := fMul_int (a := ((4 : Nat) : Int)) (b := (i : Int)) (mulOk_nat (a := 4) (by decide))
    refine ⟨_, rfl, ?_⟩
    rw [List.getElem_range]
    refine E_nx (env' := [some (.ref 0), some (.bl b), some (nI (1 + v)), some (.lst ((Pl.mapEnds (i + 1)).map nI)), some (.lst ((Pl.mapSides i).map nI)), some (nI i)]) (M' := M2) ?_ ?_
    · simp! [e4, fAdd_int, fCatL_N (l := Pl.mapEnds i) (k := [4 * i + 1, 4 * i, 4 * i + 3, 4 * i + 2]) (ds := [.int (((4 * i : Nat) : Int) + 1), .int ((4 * i : Nat) : Int), .int (((4 * i : Nat) : Int) + 3), .int (((4 * i : Nat) : Int) + 2)]) (M := M2) rfl (by rw [lE]; simp; omega), ← sE]
    · refine .of (a := .nx [some (.ref 0), some (.bl b), some (nI (1 + v)), some (.lst ((Pl.mapEnds (i + 1)).map nI)), some (.lst ((Pl.mapSides (i + 1)).map nI)), some (nI i)]) (M := M2) ?_ ⟨_, rfl, _, rfl, rfl⟩
      simp! [e4, fAdd_int, fCatL_N (l := Pl.mapSides i) (k := [4 * i + 2, 4 * i + 3, 4 * i, 4 * i + 1]) (ds := [.int (((4 * i : Nat) : Int) + 2), .int (((4 * i : Nat) : Int) + 3), .int ((4 * i : Nat) : Int), .int (((4 * i : Nat) : Int) + 1)]) (M := M2) rfl (by rw [lS]; simp; omega), ← sS]
  · rintro env M2 ⟨j5, rfl, rfl⟩
    rw [List.length_range]
    have e4 : fMul (.int 4) (nI (1 + v)) M2 = some (nI (4 * (1 + v))) := fMul_int (a := ((4 : Nat) : Int)) (b := ((1 + v : Nat) : Int)) (mulOk_nat (a := 4) (by decide))
    obtain ⟨d, M3, e, ⟨row, rfl, hrow⟩, S2⟩ := e_pairing S1 hR (m := 4 * (1 + v)) (by omega) b
    have F : Pl.Flips [Pl.mapEnds (1 + v), row, Pl.mapSides (1 + v)] (4 * (1 + v)) := by
      obtain ⟨a1, a2, _⟩ := Pl.map_ok (1 + v) (by omega)
      refine Pl.flips_iff.mpr fun o ho => ?_
      simp only [List.mem_cons, List.not_mem_nil, or_false] at ho
      rcases ho with rfl | rfl | rfl
      · exact Pl.flipB_ok a1
      · exact hrow
      · exact Pl.flipB_ok a2
    obtain ⟨m, hm, N⟩ := Pl.map_net (e := 1 + v) (by omega) (by omega) hrow
    refine ⟨_, rfl, .of (a := .rt (tT (Pl.form [Pl.mapEnds (1 + v), row, Pl.mapSides (1 + v)] (4 * (1 + v)) 0))) (M := M3) ?_ ⟨[], _, rfl, by rw [List.append_nil]; exact S2, nr_tT _, _, m, rfl, N, hm, rfl⟩⟩
    simp! [fTup_lst, e4, e, show (D.tup [.tup ((Pl.mapEnds (1 + v)).map nI), tN row, .tup ((Pl.mapSides (1 + v)).map nI)]) = tT [Pl.mapEnds (1 + v), row, Pl.mapSides (1 + v)] from rfl, e_form (S2.ok hR) F (by omega) (by simp)]
end K03
end
section
set_option maxHeartbeats 4000000
namespace K03
open PySem (Str)
open Mi
--@ _law_simplex
theorem e_simplex2 (s t : Int) : x__law_simplex [.int 2] [stO s t] = .ok (tT (Pl.simplexP 2)) [stO s t] := by kernel_rfl
theorem e_simplex3 (s t : Int) : x__law_simplex [.int 3] [stO s t] = .ok (tT (Pl.simplexP 3)) [stO s t] := by kernel_rfl
--@ _law_flips
theorem e_flips {M : List O} (hS : St [] M) : ∃ d M', x__law_flips [.ref 0] M = .ok d M' ∧ (∃ fl m, d = tT fl ∧ Pl.Net fl m ∧ m ≤ 32) ∧ St [] M' := by
  refine fn_St (P := fun d => ∃ fl m, d = tT fl ∧ Pl.Net fl m ∧ m ≤ 32) hS rfl rfl ?_
  obtain ⟨v, M1, e, hv, S1⟩ := e_take hS rfl (k := 8) (by decide) (by decide)
  have hv : v < 8 := by omega
  unfold y__law_flips
  refine E_nx (env' := [some (.ref 0), some (nI v), none, none, none, none, none, none]) (M' := M1) (by simp! [e]) ?_
  have two : ∀ (k : Nat), (((k : Int)) == 0) = decide (k = 0) := fun k => by
    by_cases h : k = 0
    · subst h; rfl
    · rw [decide_eq_false h, beq_eq_false_iff_ne]; omega
  have e2 : ∀ (p : Nat) (M : List O), fMul (.int 2) (nI p) M = some (nI (2 * p)) := fun p M => fMul_int (a := ((2 : Nat) : Int)) (b := (p : Int)) (mulOk_nat (a := 2) (by decide))
  by_cases h0 : v = 0
  · subst h0
    refine E_ift (M' := M1) (by simp! [fEq_int]; rfl) ?_
    obtain ⟨w, M2, e, hw, S2⟩ := e_take S1 rfl (k := 7) (by decide) (by decide)
    have hw : w < 7 := by omega
    refine E_nx (env' := [some (.ref 0), some (nI 0), some (nI (1 + w)), none, none, none, none, none]) (M' := M2) (by simp! [e, fAdd_int]; rfl) ?_
    have c1 : xComp [6] (xiRg1 (x2 fMul (xCon (.int 2)) (xVar 2))) (xgN 6) xbYes (xIf (xT (x2 fEq (x2 fMod (x1 fInt (xVar 6)) (xCon (.int 2))) (xCon (.int 0)))) (x2 fAdd (xVar 6) (xCon (.int 1))) (x2 fSub (xVar 6) (xCon (.int 1)))) [some (.ref 0), some (nI 0), some (nI (1 + w)), none, none, none, none, none] M2 = .ok ((Pl.polyOne (1 + w)).map nI) M2 := by
      rw [comp1 (List.range (2 * (1 + w))) nI (fun x => nI (if x % 2 = 0 then x + 1 else x - 1)) (iRg1_of (by simp! [e2]) (by omega)) (le_lim (by simp; omega)) fun x hx => ?_]
      · unfold Pl.polyOne; rw [List.map_map]; rfl
      · by_cases q : x % 2 = 0
        · simp! [wipeE, fInt_int, fMod_2, q, fEq_int, fAdd_int, two, decide_true]
          rfl
        · have q' : x % 2 = 1 := by omega
          simp! [wipeE, fInt_int, fMod_2, q', fEq_int, fSub_int, two, q]
          rw [show decide ((1 : Nat) = 0) = false from rfl, if_neg (show ¬ (1 : Nat) = 0 by decide)]
          simp!
          congr 2
          omega
    refine E_nx (env' := [some (.ref 0), some (nI 0), some (nI (1 + w)), some (.lst ((Pl.polyOne (1 + w)).map nI)), none, none, none, none]) (M' := M2) (by simp! [c1]) ?_
    have c2 : xComp [6] (xiRg1 (x2 fMul (xCon (.int 2)) (xVar 2))) (xgN 6) xbYes (xIf (xT (x2 fEq (x2 fMod (x1 fInt (xVar 6)) (xCon (.int 2))) (xCon (.int 0)))) (x2 fMod (x1 fInt (x2 fSub (xVar 6) (xCon (.int 1)))) (x2 fMul (xCon (.int 2)) (xVar 2))) (x2 fMod (x1 fInt (x2 fAdd (xVar 6) (xCon (.int 1)))) (x2 fMul (xCon (.int 2)) (xVar 2)))) [some (.ref 0), some (nI 0), some (nI (1 + w)), some (.lst ((Pl.polyOne (1 + w)).map nI)), none, none, none, none] M2 = .ok ((Pl.polyTwo (1 + w)).map nI) M2 := by
      rw [comp1 (List.range (2 * (1 + w))) nI (fun x => nI (if x % 2 = 0 then (x + 2 * (1 + w) - 1) % (2 * (1 + w)) else (x + 1) % (2 * (1 + w)))) (iRg1_of (by simp! [e2]) (by omega)) (le_lim (by simp; omega)) fun x hx => ?_]
      · unfold Pl.polyTwo; rw [List.map_map]; rfl
      · by_cases q : x % 2 = 0
        · have hm : fMod (.int ((x : Int) - 1)) (nI (2 * (1 + w))) M2 = some (nI ((x + 2 * (1 + w) - 1) % (2 * (1 + w)))) := fMod_N (by omega) (by
            have h1 : ((x + 2 * (1 + w) - 1 : Nat) : Int) = ((x : Int) - 1) + ((2 * (1 + w) : Nat) : Int) := by omega
            rw [Int.natCast_emod, h1]
            exact (Int.add_emod_right _ _).symm)
          simp! [wipeE, fInt_int, fMod_2, q, fEq_int, fSub_int, two, decide_true, e2, hm]
        · have q' : x % 2 = 1 := by omega
          have hm : fMod (.int ((x : Int) + 1)) (nI (2 * (1 + w))) M2 = some (nI ((x + 1) % (2 * (1 + w)))) := fMod_N (by omega) (by rw [Int.natCast_emod]; rfl)
          simp! [wipeE, fInt_int, fMod_2, q', fEq_int, fAdd_int, two, q]
          rw [show decide ((1 : Nat) = 0) = false from rfl, if_neg (show ¬ (1 : Nat) = 0 by decide)]
          simp! [e2, hm]
    obtain ⟨a1, a2⟩ := Pl.poly_ok (1 + w) (by omega)
    have F : Pl.Flips [Pl.polyOne (1 + w), Pl.polyTwo (1 + w)] (2 * (1 + w)) := Pl.flips_iff.mpr fun o ho => by
      simp only [List.mem_cons, List.not_mem_nil, or_false] at ho
      rcases ho with rfl | rfl
      · exact Pl.flipB_ok a1
      · exact Pl.flipB_ok a2
    obtain ⟨k, hk, N⟩ := Pl.poly_net (p := 1 + w) (by omega) (by omega)
    refine .of (a := .rt (tT (Pl.form [Pl.polyOne (1 + w), Pl.polyTwo (1 + w)] (2 * (1 + w)) 0))) (M := M2) ?_ ⟨_, rfl, [], _, rfl, S2, nr_tT _, _, k, rfl, N, by omega⟩
    simp! [c2, fTup_lst, show (D.tup [.tup ((Pl.polyOne (1 + w)).map nI), .tup ((Pl.polyTwo (1 + w)).map nI)]) = tT [Pl.polyOne (1 + w), Pl.polyTwo (1 + w)] from rfl, e_form (S2.ok rfl) F (by omega) (by simp)]
  refine E_if_f (M' := M1) (by simp! [fEq_int, two]; rw [decide_eq_false h0]) ?_
  by_cases h1 : v < 3
  · obtain ⟨d, M2, e, ⟨fl, m, rfl, N, hm, _⟩, S2⟩ := e_map S1 rfl false
    have c : decide ((v : Int) < 3) = true := decide_eq_true (by omega)
    exact E_ift (M' := M1) (by simp! [fLt_int, c]) (.of (a := .rt (tT fl)) (M := M2) (by simp! [e]) ⟨_, rfl, [], _, rfl, S2, nr_tT _, fl, m, rfl, N, by omega⟩)
  refine E_if_f (M' := M1) (by simp! [fLt_int]; rw [decide_eq_false (by omega)]) ?_
  have eqn : ∀ (k : Nat), (((v : Int)) == (k : Int)) = decide (v = k) := fun k => by
    by_cases h : v = k
    · rw [decide_eq_true h, beq_iff_eq]; omega
    · rw [decide_eq_false h, beq_eq_false_iff_ne]; omega
  by_cases h3 : v = 3
  · obtain ⟨d, M2, e, ⟨fl, m, rfl, N, hm, _⟩, S2⟩ := e_map S1 rfl true
    exact E_ift (M' := M1) (by simp! [fEq_int, show ((v : Int) == 3) = true by rw [h3]; rfl]) (.of (a := .rt (tT fl)) (M := M2) (by simp! [e]) ⟨_, rfl, [], _, rfl, S2, nr_tT _, fl, m, rfl, N, by omega⟩)
  refine E_if_f (M' := M1) (by simp! [fEq_int, show ((v : Int) == 3) = false from (eqn 3).trans (decide_eq_false h3)]) ?_
  by_cases h4 : v = 4
  · obtain ⟨d, M2, e, ⟨fl, m, rfl, N, hm, hn⟩, S2⟩ := e_map S1 rfl false
    have hm1 := N.many
    refine E_ift (M' := M1) (by simp! [fEq_int, show ((v : Int) == 4) = true by rw [h4]; rfl]) ?_
    refine E_nx (env' := [some (.ref 0), some (nI v), none, none, some (tT fl), none, none, none]) (M' := M2) (by simp! [e]) ?_
    have h0 : (fl.getD 0 []).length = m := by
      have h0 : 0 < fl.length := by omega
      rw [List.getD_eq_getElem?_getD, List.getElem?_eq_getElem h0]
      exact N.len _ (List.getElem_mem h0)
    refine E_nx (env' := [some (.ref 0), some (nI v), none, none, some (tT fl), some (nI m), none, none]) (M' := M2) (by simp! [fIdx_tT0 (show 0 < fl.length by omega), fLen_tN, h0]) ?_
    have c1 : xComp [7] (xiOf (xVar 4)) (xgN 7) xbYes (x2 fAdd (xVar 7) (x1 fTup (xF false (xComp [6] (xiOf (xVar 7)) (xgN 6) xbYes (x2 fAdd (xVar 6) (xVar 5)))))) [some (.ref 0), some (nI v), none, none, some (tT fl), some (nI m), none, none] M2 = .ok ((fl.map (Pl.dbl1 m)).map tN) M2 := by
      rw [comp1 fl tN (fun o => tN (Pl.dbl1 m o)) (iOf_tup (by simp! [tT])) (le_lim (by omega)) fun o ho => by
        have hol := N.len o ho
        simp! [wipeE]
        rw [comp1 o nI (fun x => nI (x + m)) (iOf_tup (by simp! [tN])) (le_lim (by omega)) fun x hx => by simp! [wipeE, fAdd_int]; rfl]
        simp! [fTup_lst, tN, fAdd_tup (xs := o.map nI) (ys := o.map fun x => nI (x + m)) (M := M2) (by simp; omega)]
        unfold Pl.dbl1
        rw [List.map_append, List.map_map]; rfl]
      rw [List.map_map]; rfl
    have c2 : xComp [6] (xiRg1 (x2 fMul (xCon (.int 2)) (xVar 5))) (xgN 6) xbYes (x2 fMod (x1 fInt (x2 fAdd (xVar 6) (xVar 5))) (x2 fMul (xCon (.int 2)) (xVar 5))) [some (.ref 0), some (nI v), none, none, some (tT fl), some (nI m), none, none] M2 = .ok ((Pl.swp m).map nI) M2 := by
      rw [comp1 (List.range (2 * m)) nI (fun x => nI ((x + m) % (2 * m))) (iRg1_of (by simp! [e2]) (by omega)) (le_lim (by simp; omega)) fun x hx => by
        have hq : fMod (.int ((x : Int) + (m : Int))) (nI (2 * m)) M2 = some (nI ((x + m) % (2 * m))) := fMod_N (by omega) (by rw [Int.natCast_emod]; rfl)
        simp! [wipeE, fAdd_int, fInt_int, e2, hq]]
      unfold Pl.swp; rw [List.map_map]; rfl
    refine .of (a := .rt (tT (Pl.dbl fl m))) (M := M2) ?_ ⟨_, rfl, [], _, rfl, S2, nr_tT _, _, 2 * m, rfl, Pl.dbl_net N (by omega) (by omega), by omega⟩
    simp! [c1, c2, fTup_lst, fAdd_tup (xs := (fl.map (Pl.dbl1 m)).map tN) (ys := [D.tup ((Pl.swp m).map nI)]) (M := M2) (by simp; omega)]
    unfold Pl.dbl tT
    rw [List.map_append]; rfl
  refine E_if_f (M' := M1) (by simp! [fEq_int, show ((v : Int) == 4) = false from (eqn 4).trans (decide_eq_false h4)]) ?_
  by_cases h5 : v = 5
  · obtain ⟨w, M2, e, hw, S2⟩ := e_take S1 rfl (k := 7) (by decide) (by decide)
    have hw : w < 7 := by omega
    refine E_ift (M' := M1) (by simp! [fEq_int, show ((v : Int) == 5) = true by rw [h5]; rfl]) ?_
    refine E_nx (env' := [some (.ref 0), some (nI v), none, none, none, some (nI (2 + w)), none, none]) (M' := M2) (by simp! [e, fAdd_int]; rfl) ?_
    obtain ⟨d, M3, e3, ⟨a, rfl, ha⟩, S3⟩ := e_pairing S2 rfl (m := 2 + w) (by omega) true
    obtain ⟨d, M4, e4, ⟨b, rfl, hb⟩, S4⟩ := e_pairing S3 rfl (m := 2 + w) (by omega) true
    have F : Pl.Flips [a, b] (2 + w) := Pl.flips_iff.mpr fun o ho => by
      simp only [List.mem_cons, List.not_mem_nil, or_false] at ho
      rcases ho with rfl | rfl
      · exact ha
      · exact hb
    obtain ⟨k, hk, N⟩ := Pl.pair_net (m := 2 + w) (by omega) ha hb
    refine .of (a := .rt (tT (Pl.form [a, b] (2 + w) 0))) (M := M4) ?_ ⟨_, rfl, [], _, rfl, S4, nr_tT _, _, k, rfl, N, by omega⟩
    simp! [e3, e4, show (D.tup [tN a, tN b]) = tT [a, b] from rfl, e_form (S4.ok rfl) F (by omega) (by simp)]
  refine E_if_f (M' := M1) (by simp! [fEq_int, show ((v : Int) == 5) = false from (eqn 5).trans (decide_eq_false h5)]) ?_
  by_cases h6 : v = 6
  · obtain ⟨w, M2, e, hw, S2⟩ := e_take S1 rfl (k := 3) (by decide) (by decide)
    refine E_ift (M' := M1) (by simp! [fEq_int, show ((v : Int) == 6) = true by rw [h6]; rfl]) ?_
    have S2' := S2
    obtain ⟨s, t, hs, ht, rfl⟩ := S2'
    by_cases q : (0 : Int) < w
    · refine .of (a := .rt (tT (Pl.simplexP 3))) (M := [stO s t]) ?_ ⟨_, rfl, [], _, rfl, S2, nr_tT _, _, 24, rfl, Pl.simplex3_net, by omega⟩
      have c : decide ((0 : Int) < w) = true := decide_eq_true q
      simp! [e, fGt_int, c, e_simplex3]
    · refine .of (a := .rt (tT (Pl.simplexP 2))) (M := [stO s t]) ?_ ⟨_, rfl, [], _, rfl, S2, nr_tT _, _, 6, rfl, Pl.simplex2_net, by omega⟩
      have c : decide ((0 : Int) < w) = false := decide_eq_false q
      simp! [e, fGt_int, c, e_simplex2]
  refine E_if_f (M' := M1) (by simp! [fEq_int, show ((v : Int) == 6) = false from (eqn 6).trans (decide_eq_false h6)]) ?_
  obtain ⟨w, M2, e, hw, S2⟩ := e_take S1 rfl (k := 3) (by decide) (by decide)
  by_cases q : (0 : Int) < w
  · have c : decide ((0 : Int) < w) = true := decide_eq_true q
    exact .of (a := .rt (tT [[1, 0]])) (M := M2) (by simp! [e, fGt_int, c]; rfl) ⟨[], _, rfl, S2, nr_tT _, _, 2, rfl, Pl.small_net1, by omega⟩
  · have c : decide ((0 : Int) < w) = false := decide_eq_false q
    obtain ⟨u, M3, e', hu, S3⟩ := e_take S2 rfl (k := 3) (by decide) (by decide)
    have hu : u < 3 := by omega
    refine .of (a := .rt (tT (List.replicate (1 + u) [0]))) (M := M3) ?_ ⟨[], _, rfl, S3, nr_tT _, _, 1, rfl, Pl.small_net2 u hu, by omega⟩
    simp! [e, fGt_int, c, e', fAdd_int]
    have : fMul (.tup [.tup [.int 0]]) (.int (1 + (u : Int))) M3 = some (tT (List.replicate (1 + u) [0])) := by
      match u, hu with
      | 0, _ => rfl
      | 1, _ => rfl
      | 2, _ => rfl
    simp! [this]
end K03
end
section
set_option maxHeartbeats 4000000
namespace K03
open PySem (Str)
open Mi
--@ _law_net_holds
theorem tb_lots {fl : List (List Nat)} {m : Nat} (F : Pl.Flips fl m) (hm : m ≤ 4000) : tb 3 (tT (Pl.lots fl m)) = true := by
  have P := Pl.lots_part F
  exact tb_tT 1 (Nat.le_trans (Pl.part_len P) hm) fun k hk => Nat.le_trans (Pl.nd_len (P.nd k hk) (P.lt k hk)) hm
theorem dd_pl {fl : List (List Nat)} {m : Nat} (F : Pl.Flips fl m) (i : Nat) : (dd ((List.range m).map (Pl.pl fl m i))).length = (Pl.facesP fl m i).length := by
  have P := Pl.faces_part F i
  have := nodup_len_eq (dd_nodup ((List.range m).map (Pl.pl fl m i))) (List.nodup_range (n := (Pl.facesP fl m i).length)) fun k => by
    rw [dd_mem, List.mem_map, List.mem_range]
    constructor
    · rintro ⟨x, hx, rfl⟩; exact Pl.idx_lt P (List.mem_range.mp hx)
    · intro hk
      obtain ⟨x, hx, e⟩ := Pl.idx_onto P hk
      exact ⟨x, List.mem_range.mpr hx, e⟩
  rw [this, List.length_range]
theorem e_net_holds {M : List O} (hS : St [] M) : ∃ d M', x__law_net_holds [.ref 0] M = .ok d M' ∧ d = .bl true ∧ St [] M' := by
  refine fn_St (P := fun d => d = .bl true) hS rfl rfl ?_
  obtain ⟨d, M1, e1, ⟨fl, m, rfl, N, hm⟩, S1⟩ := e_flips hS
  have hr := N.rank
  have hm1 := N.many
  have F := N.toFlips
  unfold y__law_net_holds
  refine E_nx (env' := [some (.ref 0), some (tT fl), none, none, none, none, none, none, none, none, none, none, none, none, none, none, none, none, none]) (M' := M1) (by simp! [e1]) ?_
  have h0 : (fl.getD 0 []).length = m := by
    have h0 : 0 < fl.length := by omega
    rw [List.getD_eq_getElem?_getD, List.getElem?_eq_getElem h0]
    exact F.len _ (List.getElem_mem h0)
  refine E_nx (env' := [some (.ref 0), some (tT fl), some (nI fl.length), some (nI m), none, none, none, none, none, none, none, none, none, none, none, none, none, none, none]) (M' := M1) ?_ ?_
  · simp! [fLen_tT, fIdx_tT0 (show 0 < fl.length by omega), fLen_tN, h0]
    unfold xgT
    simp! [itP, xgsW]
  -- what is kept
  obtain ⟨ds, M2, e2, is, hds, hrise, hlt, S2⟩ := compI (own := [10]) (mi := xiRg1 (xVar 2)) (xg := xgN 10) (tt := xT (x2 fEq (xCall x__law_take [] (xCons (xVar 0) (xCons (xCon (.int 2)) xNil))) (xCon (.int 0)))) (te := xVar 10) (env := [some (.ref 0), some (tT fl), some (nI fl.length), some (nI m), none, none, none, none, none, none, none, none, none, none, none, none, none, none, none]) (M := M1)
    (List.range fl.length) nI (fun k acc M => ∃ is : List Nat, acc = is.map nI ∧ is.Pairwise (· < ·) ∧ (∀ z ∈ is, z < k) ∧ St [] M) (iRg1_of (by simp!) (by omega)) (le_lim (by simp; omega)) ⟨[], rfl, .nil, by simp, S1⟩ (by
      rintro k hk acc M ⟨is, rfl, h1, h2, S⟩
      have hk : k < fl.length := by simpa using hk
      obtain ⟨v, M', e, hv, S'⟩ := e_take S rfl (k := 2) (by decide) (by decide)
      rw [List.getElem_range]
      cases q : ((v : Int) == 0) with
      | true =>
        refine ⟨some (nI k), M', ?_, is ++ [k], by simp, ?_, ?_, S'⟩
        · unfold xCompS
          simp! [wipeE, e, fEq_int, q]
        · rw [List.pairwise_append]
          exact ⟨h1, by simp, fun a ha b hb => by simp at hb; subst hb; exact h2 a ha⟩
        · intro z hz
          rcases List.mem_append.mp hz with hz | hz
          · have := h2 z hz; omega
          · simp at hz; omega
      | false =>
        refine ⟨none, M', ?_, is, by simp, h1, fun z hz => by have := h2 z hz; omega, S'⟩
        unfold xCompS
        simp! [wipeE, e, fEq_int, q])
  subst hds
  rw [List.length_range] at hlt
  have hil : is.length ≤ 4000 := by
    have nd : is.Nodup := hrise.imp fun {a b} h => by omega
    have := Pl.nd_len nd hlt
    omega
  have hM1 := S1.ok rfl
  have hM2 := S2.ok rfl
  have hN2 := S2.nr rfl
  refine E_nx (env' := [some (.ref 0), some (tT fl), some (nI fl.length), some (nI m), some (netD fl m), some (tN is), none, none, none, none, none, none, none, none, none, none, none, none, none]) (M' := M2) ?_ ?_
  · have eN : xMake "Net" x_Net_init [] (xCons (xVar 1) xNil) [some (.ref 0), some (tT fl), some (nI fl.length), some (nI m), none, none, none, none, none, none, none, none, none, none, none, none, none, none, none] M1 = .ok (netD fl m) M1 := e_Net (by simp!) (S1.nr rfl) N
    simp! [eN, e2, fTup_lst]
    unfold xgT
    simp! [itP, xgsW]
    rfl
  refine E_if_f (M' := M2) ?_ ?_
  · simp! [e_components hM2 N hrise hlt hil, e_lots hN2 F hm1.2 (dk := tN is) rfl hlt hil, e_same 3 hM2 _ (tb_lots (F.kept hlt) hm1.2)]
  refine E_nx (env' := [some (.ref 0), some (tT fl), some (nI fl.length), some (nI m), some (netD fl m), some (tN is), some (.lst ((List.range fl.length).map fun i => tT (Pl.facesP fl m i))), none, none, none, none, none, none, none, none, none, none, none, none]) (M' := M2) ?_ ?_
  · simp!
    rw [comp1 (List.range fl.length) nI (fun i => tT (Pl.facesP fl m i)) (iRg1_of (by simp!) (by omega)) (le_lim (by simp; omega)) fun i hi => by
      simp! [wipeE]
      rw [comp1f (List.range fl.length) nI nI (fun j => !decide (j = i)) (iRg1_of (by simp!) (by omega)) (le_lim (by simp; omega)) (fun j hj => by simp! [wipeE, fNe_nI]) (fun j hj _ => by simp! [wipeE])]
      simp! [e_lots hN2 F hm1.2 (dk := .lst (((List.range fl.length).filter fun j => !decide (j = i)).map nI)) rfl (fun j hj => Pl.others_lt hj) (by
        have := List.length_filter_le (fun j => !decide (j = i)) (List.range fl.length)
        rw [List.length_range] at this
        omega)]
      rfl]
    simp!
  refine E_nx (env' := [some (.ref 0), some (tT fl), some (nI fl.length), some (nI m), some (netD fl m), some (tN is), some (.lst ((List.range fl.length).map fun i => tT (Pl.facesP fl m i))), some (.lst ((List.range fl.length).map fun i => .lst (((List.range m).map (Pl.pl fl m i)).map nI))), none, none, none, none, none, none, none, none, none, none, none]) (M' := M2) ?_ ?_
  · simp!
    rw [comp1 (List.range fl.length) (fun i => tT (Pl.facesP fl m i)) (fun i => .lst (((List.range m).map (Pl.pl fl m i)).map nI)) (iOf_lst (by simp!)) (le_lim (by simp; omega)) fun i hi => by
      have P := Pl.faces_part F i
      have hpl := Pl.part_len P
      simp! [wipeE]
      rw [comp1 (List.range m) nI (fun x => nI (Pl.pl fl m i x)) (iRg1_of (by simp!) (by omega)) (le_lim (by simp; omega)) fun x hx => by
        have hx := List.mem_range.mp hx
        simp! [wipeE]
        obtain ⟨t, et⟩ := Pl.zipIdx_first x (Pl.facesP fl m i) 0 (P.all x hx)
        rw [Nat.zero_add] at et
        rw [compGf (Pl.facesP fl m i).zipIdx (fun p => .tup [.int (p.2 : Int), tN p.1]) (fun p => nI p.2) (fun p => p.1.contains x) (iEnTu_of (by simp! [tT])) (le_lim (by simp; omega)) fun p hp => ⟨([some (.ref 0), some (tT fl), some (nI fl.length), some (nI m), some (netD fl m), some (tN is), some (.lst ((List.range fl.length).map fun i => tT (Pl.facesP fl m i))), none, none, some (nI x), none, none, none, none, none, some (tT (Pl.facesP fl m i)), some (nI p.2), some (tN p.1), none], M2), by unfold xgT; simp! [itP, xgsW, wipeE], by
          simp! [show fIn false (nI x) (tN p.1) M2 = some (.bl (p.1.contains x)) from fIn_nI false p.1 x M2], fun _ => by simp!⟩]
        have et' : (((Pl.facesP fl m i).zipIdx.filter fun p => p.1.contains x).map fun p => nI p.2) = nI (Pl.pl fl m i x) :: t.map nI := by
          have := congrArg (List.map nI) et
          rw [List.map_map] at this
          exact this
        rw [et']
        simp! [fIdx_lst0]]
      simp!
      rw [List.map_map]; rfl]
    simp!
  refine E_if_f (M' := M2) ?_ ?_
  · refine bOr_f (M' := M2) (T_bl ?_) (bNot_t (T_bl ?_))
    · simp!
      rw [comp1 (List.range fl.length) nI (fun i => tT (Pl.facesP fl m i)) (iRg1_of (by simp!) (by omega)) (le_lim (by simp; omega)) fun i hi => by
        simp! [wipeE, e_faces hM2 N (List.mem_range.mp hi)]]
      have hnb : nb 64 (.lst ((List.range fl.length).map fun i => tT (Pl.facesP fl m i))) = true := by
        unfold nb; exact nbs_map fun i _ => nb_tT _ _
      simp! [fNe_nb hnb hnb, decide_true]
    · simp! [e_face_row hM2 N]
      rw [comp1 (List.range fl.length) (fun i => tT (Pl.facesP fl m i)) (fun i => nI (Pl.facesP fl m i).length) (iOf_lst (by simp!)) (le_lim (by simp; omega)) fun i hi => by
        simp! [wipeE, fLen_tT]]
      simp! [fTup_lst]
      rw [show (D.tup ((List.range fl.length).map fun i => nI (Pl.facesP fl m i).length)) = tN ((List.range fl.length).map fun i => (Pl.facesP fl m i).length) by unfold tN; rw [List.map_map]; rfl]
      simp! [e_same 3 hM2 _ (tb_tN 2 (l := (List.range fl.length).map fun i => (Pl.facesP fl m i).length) (by simp; omega))]
  refine E_if_f (M' := M2) ?_ ?_
  · simp! [e_euler hM2 N]
    rw [compG (List.range fl.length).zipIdx (fun p => .tup [.int (p.2 : Int), tT (Pl.facesP fl m p.1)]) (fun p => .int (((Pl.facesP fl m p.1).length : Int) * (1 - 2 * ((p.2 % 2 : Nat) : Int)))) (iEnL_of (l := List.range fl.length) (g := fun i => tT (Pl.facesP fl m i)) (by simp!)) (le_lim (by simp; omega)) fun p hp => ⟨([some (.ref 0), some (tT fl), some (nI fl.length), some (nI m), some (netD fl m), some (tN is), some (.lst ((List.range fl.length).map fun i => tT (Pl.facesP fl m i))), some (.lst ((List.range fl.length).map fun i => .lst (((List.range m).map (Pl.pl fl m i)).map nI))), none, none, some (nI p.2), none, none, none, none, some (tT (Pl.facesP fl m p.1)), none, none, none], M2), by unfold xgT; simp! [itP, xgsW, wipeE], by
      have hpl := Pl.part_len (Pl.faces_part F p.1)
      simp! [fLen_tT, fInt_int, fMod_2, fMul_int (mulOk_nat (a := 2) (b := ((p.2 % 2 : Nat) : Int)) (by decide)), show fMul (.int 2) (.int ((p.2 % 2 : Nat) : Int)) M2 = some (.int (2 * ((p.2 % 2 : Nat) : Int))) from fMul_int (mulOk_nat (a := 2) (by decide)), fSub_int, fMul_int (mulOk_nat (a := (Pl.facesP fl m p.1).length) (b := 1 - 2 * ((p.2 % 2 : Nat) : Int)) (by omega))]⟩]
    simp! [fSum_map]
    have es : ((List.range fl.length).zipIdx.map fun p => ((Pl.facesP fl m p.1).length : Int) * (1 - 2 * ((p.2 % 2 : Nat) : Int))).sum = eulerP ((List.range fl.length).map fun i => (Pl.facesP fl m i).length) := by
      unfold eulerP
      rw [List.zipIdx_map, List.map_map]
      rfl
    rw [es]
    simp! [e_same 3 hM2 (.int _) rfl]
  refine E_nx (env' := [some (.ref 0), some (tT fl), some (nI fl.length), some (nI m), some (netD fl m), some (tN is), some (.lst ((List.range fl.length).map fun i => tT (Pl.facesP fl m i))), some (.lst ((List.range fl.length).map fun i => .lst (((List.range m).map (Pl.pl fl m i)).map nI))), some (.lst ((Pl.rowsP fl m).map tN)), none, none, none, none, none, none, none, none, none, none]) (M' := M2) ?_ ?_
  · simp!
    rw [comp1 (List.range m) nI (fun x => tN (Pl.rowP fl m x)) (iRg1_of (by simp!) (by omega)) (le_lim (by simp; omega)) fun x hx => by
      have hx := List.mem_range.mp hx
      simp! [wipeE]
      rw [comp1 (List.range fl.length) nI (fun i => nI (Pl.pl fl m i x)) (iRg1_of (by simp!) (by omega)) (le_lim (by simp; omega)) fun i hi => by
        have hi := List.mem_range.mp hi
        simp! [wipeE, fIdx_map (l := List.range fl.length) (g := fun i => D.lst (((List.range m).map (Pl.pl fl m i)).map nI)) (k := i) (by simpa using hi), List.getElem_range, fIdx_lN (l := (List.range m).map (Pl.pl fl m i)) (k := x) (by simpa using hx)]
        simp [hx]]
      simp! [fTup_lst]
      unfold Pl.rowP tN
      rw [List.map_map]; rfl]
    simp!
    unfold Pl.rowsP
    rw [List.map_map]; rfl
  obtain ⟨x, M3, e3, hx, S3⟩ := e_take S2 rfl (k := (m : Int)) (by omega) (by omega)
  have hx : x < m := by omega
  have hM3 := S3.ok rfl
  refine E_nx (env' := [some (.ref 0), some (tT fl), some (nI fl.length), some (nI m), some (netD fl m), some (tN is), some (.lst ((List.range fl.length).map fun i => tT (Pl.facesP fl m i))), some (.lst ((List.range fl.length).map fun i => .lst (((List.range m).map (Pl.pl fl m i)).map nI))), some (.lst ((Pl.rowsP fl m).map tN)), some (nI x), none, none, none, none, none, none, none, none, none]) (M' := M3) (by simp! [e3]) ?_
  have rowx : (Pl.rowsP fl m)[x]'(by simpa [Pl.rowsP] using hx) = Pl.rowP fl m x := by simp [Pl.rowsP]
  have hrl : (Pl.rowP fl m x).length = fl.length := by simp [Pl.rowP]
  have rows0 : Pl.rowsP fl m ≠ [] := by intro e; have := congrArg List.length e; simp [Pl.rowsP] at this; omega
  have rowsl : (Pl.rowsP fl m).length < 64 := by simp [Pl.rowsP]; omega
  refine E_if_f (M' := M3) ?_ ?_
  · refine bOr_f (M' := M3) (bNot_t (T_bl ?_)) (bOr_f (M' := M3) (bNot_t (T_bl (m1_of (xF_f (comp1 (List.range fl.length) nI (fun _ => .bl true) (iRg1_of (by simp!) (by omega)) (le_lim (by simp; omega)) fun i hi => ?_)) fAll_yes))) (bNot_t (T_bl ?_)))
    · simp! [e_marks hM3 N hx, fIdx_map (l := Pl.rowsP fl m) (g := tN) (k := x) (M := M3) (by simpa [Pl.rowsP] using hx), rowx, e_same 3 hM3 _ (tb_tN 2 (l := Pl.rowP fl m x) (by omega))]
    · have hi := List.mem_range.mp hi
      simp! [wipeE, e_face_of hM3 N hi hx, fIdx_map (l := Pl.rowsP fl m) (g := tN) (k := x) (M := M3) (by simpa [Pl.rowsP] using hx), rowx, fIdx_tN (l := Pl.rowP fl m x) (k := i) (by omega)]
      rw [show (Pl.rowP fl m x).getD i 0 = Pl.pl fl m i x by simp [Pl.rowP, hi]]
      simp! [e_same 3 hM3 (nI _) (tb_nI _ _)]
    · simp! [e_are_told hM3 N (by omega), fLenSet_rows rows0 rowsl, fEq_nI, e_says hM3]
  by_cases hn2 : fl.length < 2
  · have c : decide ((fl.length : Int) < 2) = true := decide_eq_true (by omega)
    exact E_ift (M' := M3) (by simp! [fLt_int, c]) (.of (a := .rt (.bl true)) (M := M3) (by simp!) ⟨_, rfl, [], _, rfl, S3, rfl, rfl⟩)
  refine E_if_f (M' := M3) (by simp! [fLt_int]; rw [decide_eq_false (by omega)]) ?_
  obtain ⟨i, M4, e4, hi, S4⟩ := e_take S3 rfl (k := (fl.length : Int) - 1) (by omega) (by omega)
  refine E_nx (env' := [some (.ref 0), some (tT fl), some (nI fl.length), some (nI m), some (netD fl m), some (tN is), some (.lst ((List.range fl.length).map fun i => tT (Pl.facesP fl m i))), some (.lst ((List.range fl.length).map fun i => .lst (((List.range m).map (Pl.pl fl m i)).map nI))), some (.lst ((Pl.rowsP fl m).map tN)), some (nI x), some (nI i), none, none, none, none, none, none, none, none]) (M' := M4) (by simp! [fSub_int, e4]) ?_
  obtain ⟨w, M5, e5, hw, S5⟩ := e_take S4 rfl (k := (fl.length : Int) - 1 - i) (by omega) (by omega)
  obtain ⟨j, hj⟩ : ∃ j, j = i + 1 + w := ⟨_, rfl⟩
  refine E_nx (env' := [some (.ref 0), some (tT fl), some (nI fl.length), some (nI m), some (netD fl m), some (tN is), some (.lst ((List.range fl.length).map fun i => tT (Pl.facesP fl m i))), some (.lst ((List.range fl.length).map fun i => .lst (((List.range m).map (Pl.pl fl m i)).map nI))), some (.lst ((Pl.rowsP fl m).map tN)), some (nI x), some (nI i), some (nI j), none, none, none, none, none, none, none]) (M' := M5) (by simp! [fAdd_int, fSub_int, e5]; rw [hj]; rfl) ?_
  have hij : i < j := by omega
  have hjl : j < fl.length := by omega
  have hil' : i < fl.length := by omega
  have Pi := Pl.faces_part F i
  have Pj := Pl.faces_part F j
  have li := Pl.part_len Pi
  have lj := Pl.part_len Pj
  have pi : 0 < (Pl.facesP fl m i).length := by
    have := Pl.idx_lt Pi (x := 0) (by omega); omega
  have pj : 0 < (Pl.facesP fl m j).length := by
    have := Pl.idx_lt Pj (x := 0) (by omega); omega
  obtain ⟨a, M6, e6, ha, S6⟩ := e_take S5 rfl (k := ((Pl.facesP fl m i).length : Int)) (by omega) (by omega)
  obtain ⟨b, M7, e7, hb, S7⟩ := e_take S6 rfl (k := ((Pl.facesP fl m j).length : Int)) (by omega) (by omega)
  have ha : a < (Pl.facesP fl m i).length := by omega
  have hb : b < (Pl.facesP fl m j).length := by omega
  have hM7 := S7.ok rfl
  have lotI : ∀ M k, k < fl.length → fIdx (.lst ((List.range fl.length).map fun i => tT (Pl.facesP fl m i))) (nI k) M = some (tT (Pl.facesP fl m k)) := fun M k hk => by
    rw [fIdx_map (l := List.range fl.length) (g := fun i => tT (Pl.facesP fl m i)) (k := k) (by simpa using hk), List.getElem_range]
  refine E_nx (env' := [some (.ref 0), some (tT fl), some (nI fl.length), some (nI m), some (netD fl m), some (tN is), some (.lst ((List.range fl.length).map fun i => tT (Pl.facesP fl m i))), some (.lst ((List.range fl.length).map fun i => .lst (((List.range m).map (Pl.pl fl m i)).map nI))), some (.lst ((Pl.rowsP fl m).map tN)), some (nI x), some (nI i), some (nI j), some (nI a), some (nI b), none, none, none, none, none]) (M' := M7) ?_ ?_
  · simp! [lotI _ i hil', fLen_tT, e6, lotI _ j hjl, e7]
    unfold xgT
    simp! [itP, xgsW]
  obtain ⟨met, hmet⟩ : ∃ met, met = (List.range m).any fun x => decide (Pl.pl fl m i x = a) && decide (Pl.pl fl m j x = b) := ⟨_, rfl⟩
  have rowI : ∀ x k M, k < fl.length → fIdx (tN (Pl.rowP fl m x)) (nI k) M = some (nI (Pl.pl fl m k x)) := fun x k M hk => by
    rw [fIdx_tN (by simpa [Pl.rowP] using hk)]
    simp [Pl.rowP, hk]
  refine E_nx (env' := [some (.ref 0), some (tT fl), some (nI fl.length), some (nI m), some (netD fl m), some (tN is), some (.lst ((List.range fl.length).map fun i => tT (Pl.facesP fl m i))), some (.lst ((List.range fl.length).map fun i => .lst (((List.range m).map (Pl.pl fl m i)).map nI))), some (.lst ((Pl.rowsP fl m).map tN)), some (nI x), some (nI i), some (nI j), some (nI a), some (nI b), some (.bl met), none, none, none, none]) (M' := M7) ?_ ?_
  · simp!
    rw [comp1 (List.range m) (fun x => tN (Pl.rowP fl m x)) (fun x => .bl (decide (Pl.pl fl m i x = a) && decide (Pl.pl fl m j x = b))) (iOf_lst (by simp!; unfold Pl.rowsP; rw [List.map_map]; rfl)) (le_lim (by simp; omega)) fun x hx => by
      simp! [wipeE, rowI x i M7 hil', rowI x j M7 hjl, fEq_nI]
      cases decide (Pl.pl fl m i x = a) with
      | true => simp! [Bool.true_and]
      | false => simp! [Bool.false_and]]
    simp! [fAny_map, hmet]
  have hmet2 : ((List.range m).any fun x => decide (Pl.pl fl m j x = b) && decide (Pl.pl fl m i x = a)) = met := by
    rw [hmet]; exact congrArg (fun f => (List.range m).any f) (funext fun x => Bool.and_comm _ _)
  refine E_if_f (M' := M7) ?_ ?_
  · simp! [e_is_on hM7 N hil' hjl (by omega) ha hb, ← hmet, e_says hM7, e_is_on hM7 N hjl hil' (by omega) hb ha, hmet2]
  refine E_ret (d := .bl true) (M' := M7) ?_ ⟨[], _, rfl, S7, rfl, rfl⟩
  simp! [e_is_flat hM7 N (by omega) hij hjl]
  rw [comp1 (List.range m) (fun x => tN (Pl.rowP fl m x)) (fun x => tN [Pl.pl fl m i x, Pl.pl fl m j x]) (iOf_lst (by simp!; unfold Pl.rowsP; rw [List.map_map]; rfl)) (le_lim (by simp; omega)) fun x hx => by
    simp! [wipeE, rowI x i M7 hil', rowI x j M7 hjl]
    rfl]
  rw [show ((List.range m).map fun x => tN [Pl.pl fl m i x, Pl.pl fl m j x]) = (flatP fl m i j).map tN by unfold flatP; rw [List.map_map]; rfl]
  have ne : flatP fl m i j ≠ [] := by intro e; have := congrArg List.length e; simp [flatP] at this; omega
  have eM : ∀ M, fMul (nI (Pl.facesP fl m i).length) (nI (Pl.facesP fl m j).length) M = some (nI ((Pl.facesP fl m i).length * (Pl.facesP fl m j).length)) := fun M => fMul_int (mulOk_nat (by omega))
  simp! [fLenSet_rows ne (show (flatP fl m i j).length < 64 by simp [flatP]; omega), lotI _ i hil', lotI _ j hjl, fLen_tT, eM, fEq_nI, dd_pl F, e_says hM7]
end K03
end
section
set_option maxHeartbeats 4000000
namespace K03
open PySem (Str)
open Mi
theorem e_law (ns : List Int) : x_law [.slst (ns.map D.int)] [] = .ok (.bl true) [] := by
  refine fn_E rfl rfl rfl ?_
  unfold y_law
  obtain ⟨M1, e1, S1⟩ := e__law_state ns
  refine E_nx (env' := [some (.slst (ns.map D.int)), some (.ref 0), none, none, none, none, none, none, none]) (M' := M1) (by simp! [e1]) ?_
  refine E_seq (E_for (List.range 5) nI (fun i env M => env = [some (.slst (ns.map D.int)), some (.ref 0), (if i = 0 then none else some (nI (i - 1))), none, none, none, none, none, none] ∧ St [] M) (M' := M1) (iRg1_of (n := 5) (by simp!; rfl) (by decide)) ⟨rfl, S1⟩ ?_ ?_)
  · rintro i hi env M ⟨rfl, S⟩
    obtain ⟨d, M', e, rfl, S'⟩ := e_net_holds S
    refine ⟨_, rfl, E_if_e (M' := M') (by simp! [e]) (.ok ⟨_, rfl, ?_, S'⟩)⟩
    rw [List.getElem_range, if_neg (Nat.succ_ne_zero i)]
    rfl
  · rintro env M ⟨rfl, s, t, hs, ht, rfl⟩
    refine ⟨_, rfl, .of (a := .rt (.bl true)) (M := [stO s t]) ?_ ⟨rfl, _, rfl⟩⟩
    kernel_rfl
end K03
theorem K03.holds : PySem.Challenge.rw_flagsflipped_k03_whole_faces_and_marks.Holds :=
  K03.of_plain fun ns _ _ => K03.ok_law _ _ _ _ (by rw [K03.e_law ns]; exact rfl)
end
theorem PySem.Challenge.cw_flagsflipped_k03_whole_faces_and_marks_holds : PySem.Challenge.rw_flagsflipped_k03_whole_faces_and_marks.Holds := by
  exact K03.holds
