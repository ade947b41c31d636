import PyProof.Rows.All
import Wide.All
import OpenK.AllK
import Wide.FinOn
import PySem.Challenge.RW_nocolouring_k16_whole_colourings_counted
import HandS.ForMost
import HandS.Exc
import HandS.TryOnly
import HandS.ExcOwn
import HandS.WordsExc
import HandS.TryMany
import HandS.IsInst
import HandS.TupAny
import HandS.TupMul
import HandS.Deep
import HandS.Walk
import HandS.Lambda
import HandS.Wide
import HandS.WideMore
import HandS.Zip
import HandS.Style
import HandS.Defaults
import HandS.HeadHook2
import HandS.ExcCtx
import HandS.Conv
import HandS.Text
import HandS.Rev
import HandS.SortInts
import KE.GoesMore
import KE.SortUse
import HandS.Hot
import HandS.HotCalls
import HandS.ExcIs
import KE.KExcSuper
import HandS.ExcInit
import HandS.ExcField
import HandS.Head2
import HandS.HeadEnd
import HandS.HeadWalk
import HandS.HeadHook1
import HandS.HeadHook4
import HandS.SetFor
import HandS.SetKeys
import HandS.Strs
import HandS.TupSets
import KE.KSortTupG
import HandS.Iter
import HandS.CallLocal
import HandS.Codes
import HandS.Property
import KE.KOpsOwn
import PyProof.Rows.Range3
import PyProof.Rows.SeqMore
section
set_option Elab.async false
set_option linter.all false
set_option maxRecDepth 100000
set_option maxHeartbeats 2000000
namespace NC
open PySem PySem.Spec PyProof.Rows L2

/-- Python data as a tree; ref: an object by its address (a def, a class, a mutable object) -/
inductive P where
  | non | bl (b : Bool) | int (i : Int) | str (x : Str) | tup (xs : List P) | lst (xs : List P) | ref (a : Addr) | ty (n : String) | exn (a d : Addr) (n : Int)

mutual
def Is (K : PySem.W.Frag) (Z : Hp) : P → V → Prop
  | .non, v => v = .non
  | .bl b, v => v = .bl b
  | .int i, v => v = .int i
  | .str x, v => v = .str x
  | .ref a, v => v = .ref a
  | .ty n, v => v = .ty n
  | .exn a d n, v => v = .ref a ∧ Z d = some (.xd [("limit", .int n)])
  | .tup xs, v => ∃ a vs, v = .ref a ∧ SqT K Z a vs ∧ IsL K Z xs vs
  | .lst xs, v => ∃ a vs, v = .ref a ∧ Rd Z a (.lst vs) ∧ IsL K Z xs vs
def IsL (K : PySem.W.Frag) (Z : Hp) : List P → List V → Prop
  | [], vs => vs = []
  | x :: xs, vs => ∃ v r, vs = v :: r ∧ Is K Z x v ∧ IsL K Z xs r
end

theorem seqT_same {K : PySem.W.Frag} {H H' : Hp} {a : Addr} {xs : List V} (e : Same H H') (h : SqT K H a xs) : SqT K H' a xs := by
  rcases h with (h | ⟨o, h⟩) | h
  · exact .inl (.inl (e _ _ h))
  · exact .inl (.inr ⟨o, e _ _ h⟩)
  · exact .inr h
theorem rd_same {H H' : Hp} {a : Addr} {u : HO} (e : Same H H') (h : Rd H a u) : Rd H' a u := by
  rcases h with h | ⟨o, h⟩
  · exact .inl (e _ _ h)
  · exact .inr ⟨o, e _ _ h⟩
mutual
theorem Is.mono {K : PySem.W.Frag} {Z Z1 : Hp} (s : Same Z Z1) : ∀ {p : P} {v : V}, Is K Z p v → Is K Z1 p v
  | .non, v, h => h
  | .bl b, v, h => h
  | .int i, v, h => h
  | .str x, v, h => h
  | .ref a, v, h => h
  | .ty n, v, h => h
  | .exn a d n, v, h => ⟨h.1, s _ _ h.2⟩
  | .tup xs, v, h => by
    obtain ⟨a, vs, e, q, l⟩ := h
    exact ⟨a, vs, e, seqT_same s q, IsL.mono s l⟩
  | .lst xs, v, h => by
    obtain ⟨a, vs, e, q, l⟩ := h
    exact ⟨a, vs, e, rd_same s q, IsL.mono s l⟩
theorem IsL.mono {K : PySem.W.Frag} {Z Z1 : Hp} (s : Same Z Z1) : ∀ {ps : List P} {vs : List V}, IsL K Z ps vs → IsL K Z1 ps vs
  | [], vs, h => h
  | x :: xs, vs, h => by
    obtain ⟨v, r, e, a, l⟩ := h
    exact ⟨v, r, e, Is.mono s a, IsL.mono s l⟩
end
theorem IsL.length {K : PySem.W.Frag} {Z : Hp} : ∀ {ps : List P} {vs : List V}, IsL K Z ps vs → ps.length = vs.length
  | [], vs, h => by
    have e : vs = [] := h
    rw [e]
    rfl
  | x :: xs, vs, h => by
    obtain ⟨v, r, rfl, a, l⟩ := h
    simp only [List.length_cons, IsL.length l]
theorem IsL.get {K : PySem.W.Frag} {Z : Hp} : ∀ {ps : List P} {vs : List V} {i : Nat} {p : P}, IsL K Z ps vs → ps[i]? = some p → ∃ v, vs[i]? = some v ∧ Is K Z p v
  | [], vs, i, p, h, e => by simp at e
  | x :: xs, vs, 0, p, h, e => by
    obtain ⟨v, r, rfl, a, l⟩ := h
    simp at e
    subst e
    exact ⟨v, rfl, a⟩
  | x :: xs, vs, i + 1, p, h, e => by
    obtain ⟨v, r, rfl, a, l⟩ := h
    obtain ⟨w, e1, e2⟩ := IsL.get l (show xs[i]? = some p by simpa using e)
    exact ⟨w, by simpa using e1, e2⟩
theorem IsL.append {K : PySem.W.Frag} {Z : Hp} : ∀ {ps qs : List P} {vs ws : List V}, IsL K Z ps vs → IsL K Z qs ws → IsL K Z (ps ++ qs) (vs ++ ws)
  | [], qs, vs, ws, h, k => by
    have e : vs = [] := h
    rw [e]
    exact k
  | x :: xs, qs, vs, ws, h, k => by
    obtain ⟨v, r, rfl, a, l⟩ := h
    exact ⟨v, r ++ ws, rfl, a, IsL.append l k⟩
theorem IsL.take {K : PySem.W.Frag} {Z : Hp} : ∀ (n : Nat) {ps : List P} {vs : List V}, IsL K Z ps vs → IsL K Z (ps.take n) (vs.take n)
  | 0, ps, vs, h => by simp [IsL]
  | n + 1, [], vs, h => by
    have e : vs = [] := h
    rw [e]
    simp [IsL]
  | n + 1, x :: xs, vs, h => by
    obtain ⟨v, r, rfl, a, l⟩ := h
    exact ⟨v, r.take n, rfl, a, IsL.take n l⟩
theorem IsL.drop {K : PySem.W.Frag} {Z : Hp} : ∀ (n : Nat) {ps : List P} {vs : List V}, IsL K Z ps vs → IsL K Z (ps.drop n) (vs.drop n)
  | 0, ps, vs, h => by simpa using h
  | n + 1, [], vs, h => by
    have e : vs = [] := h
    rw [e]
    simp [IsL]
  | n + 1, x :: xs, vs, h => by
    obtain ⟨v, r, rfl, a, l⟩ := h
    exact IsL.drop n l
theorem IsL.set {K : PySem.W.Frag} {Z : Hp} {p : P} {v : V} (a : Is K Z p v) : ∀ (i : Nat) {ps : List P} {vs : List V}, IsL K Z ps vs → IsL K Z (ps.set i p) (vs.set i v)
  | i, [], vs, h => by
    have e : vs = [] := h
    rw [e]
    simp [IsL]
  | 0, x :: xs, vs, h => by
    obtain ⟨w, r, rfl, b, l⟩ := h
    exact ⟨v, r, rfl, a, l⟩
  | i + 1, x :: xs, vs, h => by
    obtain ⟨w, r, rfl, b, l⟩ := h
    exact ⟨w, r.set i v, rfl, b, IsL.set a i l⟩
theorem IsL.snoc {K : PySem.W.Frag} {Z : Hp} {ps : List P} {vs : List V} {p : P} {v : V} (h : IsL K Z ps vs) (a : Is K Z p v) : IsL K Z (ps ++ [p]) (vs ++ [v]) :=
  h.append (show IsL K Z [p] [v] from ⟨v, [], rfl, a, rfl⟩)
theorem IsL.rev {K : PySem.W.Frag} {Z : Hp} : ∀ {ps : List P} {vs : List V}, IsL K Z ps vs → IsL K Z ps.reverse vs.reverse
  | [], vs, h => by
    have e : vs = [] := h
    rw [e]
    simp [IsL]
  | x :: xs, vs, h => by
    obtain ⟨v, r, rfl, a, l⟩ := h
    rw [List.reverse_cons, List.reverse_cons]
    exact (IsL.rev l).snoc a
theorem IsL.dropLast {K : PySem.W.Frag} {Z : Hp} {ps : List P} {vs : List V} (h : IsL K Z ps vs) : IsL K Z ps.dropLast vs.dropLast := by
  rw [List.dropLast_eq_take, List.dropLast_eq_take, h.length]
  exact h.take _
theorem IsL.ints {K : PySem.W.Frag} {Z : Hp} : ∀ {ns : List Int} {vs : List V}, IsL K Z (ns.map P.int) vs → vs = ns.map V.int
  | [], vs, h => h
  | n :: ns, vs, h => by
    obtain ⟨v, r, rfl, a, l⟩ := h
    have e : v = .int n := a
    rw [e, IsL.ints l]
    rfl
theorem IsL.of_ints {K : PySem.W.Frag} {Z : Hp} : ∀ {ns : List Int}, IsL K Z (ns.map P.int) (ns.map V.int)
  | [] => rfl
  | n :: ns => ⟨_, _, rfl, rfl, IsL.of_ints⟩
theorem IsL.bls {K : PySem.W.Frag} {Z : Hp} : ∀ {ns : List Bool} {vs : List V}, IsL K Z (ns.map P.bl) vs → vs = ns.map V.bl
  | [], vs, h => h
  | n :: ns, vs, h => by
    obtain ⟨v, r, rfl, a, l⟩ := h
    have e : v = .bl n := a
    rw [e, IsL.bls l]
    rfl
theorem IsL.strs {K : PySem.W.Frag} {Z : Hp} : ∀ {ns : List Str} {vs : List V}, IsL K Z (ns.map P.str) vs → vs = ns.map V.str
  | [], vs, h => h
  | n :: ns, vs, h => by
    obtain ⟨v, r, rfl, a, l⟩ := h
    have e : v = .str n := a
    rw [e, IsL.strs l]
    rfl
theorem IsL.of_strs {K : PySem.W.Frag} {Z : Hp} : ∀ {ns : List Str}, IsL K Z (ns.map P.str) (ns.map V.str)
  | [] => rfl
  | n :: ns => ⟨_, _, rfl, rfl, IsL.of_strs⟩

/-- a mutable object -/
inductive MO where
  | lst (xs : List P)
  | ins (C dx : Addr) (fs : List (Str × P))
  | dK (kvs : List (Key × P))
  | dT (kvs : List (List Key × P))
  | tab (q : Str)
  /-- a set of tuples of ints: their places, and what is true of the set's own object -/
  | setT (L : List (Addr × List Int)) (φ : Heap → Prop)
abbrev Mm := Addr → Option MO
abbrev Rho := List (Option P)
def IsF {κ : Type} (K : PySem.W.Frag) (Z : Hp) : List (κ × P) → List (κ × V) → Prop
  | [], vs => vs = []
  | x :: xs, vs => ∃ v r, vs = (x.1, v) :: r ∧ Is K Z x.2 v ∧ IsF K Z xs r
theorem IsF.mono {κ : Type} {K : PySem.W.Frag} {Z Z1 : Hp} (s : Same Z Z1) : ∀ {fs : List (κ × P)} {vs : List (κ × V)}, IsF K Z fs vs → IsF K Z1 fs vs
  | [], vs, h => h
  | x :: xs, vs, h => by
    obtain ⟨v, r, e, a, l⟩ := h
    exact ⟨v, r, e, a.mono s, IsF.mono s l⟩
def MoIs (K : PySem.W.Frag) (Z : Hp) (M : Mm) (H : Hp) (a : Addr) : MO → Prop
  | .lst xs => ∃ vs, H a = some (.lst vs) ∧ IsL K Z xs vs
  | .ins C dx fs => ∃ fvs, H a = some (.ins C dx fvs) ∧ IsF K Z fs fvs
  | .dK kvs => ∃ vs, H a = some (.dK vs) ∧ IsF K Z kvs vs
  | .dT kvs => ∃ vs, H a = some (.dT vs) ∧ IsF K Z kvs vs
  | .tab q => ∃ ps : Array Value, H a = some (.tbl ps) ∧ TriplesOk ps.toList ∧ ∀ (pos : Pos) (cv : Value), codeAmong pos ps.toList = some cv → ∃ c, cv = .ref c ∧ H c = some (LamX.CodeO c q) ∧ M c = none
  | .setT L φ => H a = some (.ext φ) ∧ (∃ (h : Heap) (o : Obj) (es : Array (Int × Value)) (ep : Nat) (t : SetTable), φ h ∧ h.get? a = some o ∧ o.data = .set es ep t) ∧ ∀ p ∈ L, SqT K Z p.1 (p.2.map V.int)
theorem MoIs.there {K : PySem.W.Frag} {Z : Hp} {M : Mm} {H : Hp} {a : Addr} {o : MO} (h : MoIs K Z M H a o) : ∃ u, H a = some u := by
  cases o with
  | lst xs => obtain ⟨_, e, _⟩ := h; exact ⟨_, e⟩
  | ins C dx fs => obtain ⟨_, e, _⟩ := h; exact ⟨_, e⟩
  | dK kvs => obtain ⟨_, e, _⟩ := h; exact ⟨_, e⟩
  | dT kvs => obtain ⟨_, e, _⟩ := h; exact ⟨_, e⟩
  | tab q => obtain ⟨_, e, _⟩ := h; exact ⟨_, e⟩
  | setT L φ => exact ⟨_, h.1⟩
/-- what a mutable object's description leans on -/
theorem MoIs.stay {K : PySem.W.Frag} {Z Z1 : Hp} {M M1 : Mm} {H H1 : Hp} {a : Addr} {o : MO} (h : MoIs K Z M H a o) (s : Same Z Z1) (e : H1 a = H a) (k : ∀ c q, H c = some (LamX.CodeO c q) → M c = none → H1 c = some (LamX.CodeO c q) ∧ M1 c = none) : MoIs K Z1 M1 H1 a o := by
  cases o with
  | lst xs => obtain ⟨vs, h1, h2⟩ := h; exact ⟨vs, by rw [e]; exact h1, h2.mono s⟩
  | ins C dx fs => obtain ⟨vs, h1, h2⟩ := h; exact ⟨vs, by rw [e]; exact h1, h2.mono s⟩
  | dK kvs => obtain ⟨vs, h1, h2⟩ := h; exact ⟨vs, by rw [e]; exact h1, h2.mono s⟩
  | dT kvs => obtain ⟨vs, h1, h2⟩ := h; exact ⟨vs, by rw [e]; exact h1, h2.mono s⟩
  | tab q =>
    obtain ⟨ps, h1, h2, h3⟩ := h
    refine ⟨ps, by rw [e]; exact h1, h2, fun pos cv hc => ?_⟩
    obtain ⟨c, e1, e2, e3⟩ := h3 pos cv hc
    obtain ⟨g1, g2⟩ := k c _ e2 e3
    exact ⟨c, e1, g1, g2⟩
  | setT L φ => exact ⟨by rw [e]; exact h.1, h.2.1, fun p hp => seqT_same s (h.2.2 p hp)⟩
structure St (K : PySem.W.Frag) (Z : Hp) (M : Mm) (H : Hp) : Prop where
  z : Same Z H
  m : ∀ a o, M a = some o → MoIs K Z M H a o
  d : ∀ a o, M a = some o → Z a = none
structure Tr (Z : Hp) (M : Mm) (H : Hp) (Z1 : Hp) (M1 : Mm) (H1 : Hp) : Prop where
  z : Same Z Z1
  k : ∀ b o, H b = some o → M b = none → H1 b = some o ∧ M1 b = none ∧ Z1 b = Z b
  t : ∀ b, H1 b = none → H b = none
theorem Tr.refl {Z : Hp} {M : Mm} {H : Hp} : Tr Z M H Z M H := ⟨Same.refl _, fun _ _ h n => ⟨h, n, rfl⟩, fun _ h => h⟩
theorem Tr.trans {Z Z1 Z2 : Hp} {M M1 M2 : Mm} {H H1 H2 : Hp} (a : Tr Z M H Z1 M1 H1) (b : Tr Z1 M1 H1 Z2 M2 H2) : Tr Z M H Z2 M2 H2 :=
  ⟨a.z.trans b.z, fun c o h n => let ⟨x, y, z⟩ := a.k c o h n; let ⟨x2, y2, z2⟩ := b.k c o x y; ⟨x2, y2, z2.trans z⟩, fun c h => a.t c (b.t c h)⟩
def updM (M : Mm) (a : Addr) (o : MO) : Mm := fun b => if b = a then some o else M b
def eraM (M : Mm) (a : Addr) : Mm := fun b => if b = a then none else M b
theorem updM_same {M : Mm} {a : Addr} {o : MO} : updM M a o a = some o := if_pos rfl
theorem updM_ne {M : Mm} {a b : Addr} {o : MO} (h : b ≠ a) : updM M a o b = M b := if_neg h
theorem eraM_same {M : Mm} {a : Addr} : eraM M a a = none := if_pos rfl
theorem eraM_ne {M : Mm} {a b : Addr} (h : b ≠ a) : eraM M a b = M b := if_neg h
theorem updM_updM {M : Mm} {a : Addr} {o u : MO} : updM (updM M a o) a u = updM M a u := by
  funext b; unfold updM; split <;> rfl
section
variable {K : PySem.W.Frag} {Z : Hp} {M : Mm} {H : Hp}
theorem St.zn (s : St K Z M H) {p : Addr} (h : H p = none) : Z p = none := s.z.free h
theorem St.mn (s : St K Z M H) {p : Addr} (h : H p = none) : M p = none := by
  cases e : M p with
  | none => rfl
  | some o =>
    obtain ⟨u, q⟩ := (s.m p o e).there
    rw [h] at q; cases q
theorem same_upd {A : Hp} {p : Addr} {o : HO} (h : A p = none) : Same A (upd A p o) := fun b u q => by rw [upd_ne (ne_of_none q h)]; exact q
/-- a new object, not known further -/
theorem St.tmp (s : St K Z M H) {p : Addr} {o : HO} (h : H p = none) : St K Z M (upd H p o) ∧ Tr Z M H Z M (upd H p o) := by
  refine ⟨⟨fun b u q => same_upd h b u (s.z b u q), fun a u q => ?_, s.d⟩, ⟨Same.refl _, fun b u q n => ⟨same_upd h b u q, n, rfl⟩, fun b q => ?_⟩⟩
  · have hm := s.m a u q
    obtain ⟨v, e⟩ := hm.there
    exact hm.stay (Same.refl _) (upd_ne (ne_of_none e h)) fun c w e n => ⟨same_upd h c _ e, n⟩
  · by_cases hb : b = p
    · rw [hb]; exact h
    · rw [upd_ne hb] at q; exact q
/-- a new object, frozen -/
theorem St.frz (s : St K Z M H) {p : Addr} {o : HO} (h : H p = none) : St K (upd Z p o) M (upd H p o) ∧ Tr Z M H (upd Z p o) M (upd H p o) := by
  have sz : Same Z (upd Z p o) := same_upd (s.zn h)
  refine ⟨⟨fun b u q => ?_, fun a u q => ?_, fun a u q => ?_⟩, ⟨sz, fun b u q n => ⟨same_upd h b u q, n, upd_ne (ne_of_none q h)⟩, fun b q => ?_⟩⟩
  · by_cases hb : b = p
    · rw [hb, upd_same] at q; rw [hb, upd_same]; exact q
    · rw [upd_ne hb] at q; rw [upd_ne hb]; exact s.z b u q
  · have hm := s.m a u q
    obtain ⟨v, e⟩ := hm.there
    exact hm.stay sz (upd_ne (ne_of_none e h)) fun c w e n => ⟨same_upd h c _ e, n⟩
  · have hb : a ≠ p := fun z => by rw [z, s.mn h] at q; cases q
    rw [upd_ne hb]; exact s.d a u q
  · by_cases hb : b = p
    · rw [hb]; exact h
    · rw [upd_ne hb] at q; exact q
/-- a new object, mutable -/
theorem St.new (s : St K Z M H) {p : Addr} {o : HO} {u : MO} (h : H p = none) (k : MoIs K Z (updM M p u) (upd H p o) p u) : St K Z (updM M p u) (upd H p o) ∧ Tr Z M H Z (updM M p u) (upd H p o) := by
  have kk : ∀ b x, H b = some x → M b = none → upd H p o b = some x ∧ updM M p u b = none := fun b x q n => ⟨same_upd h b x q, by rw [updM_ne (ne_of_none q h)]; exact n⟩
  refine ⟨⟨fun b x q => same_upd h b x (s.z b x q), fun a x q => ?_, fun a x q => ?_⟩, ⟨Same.refl _, fun b x q n => ⟨(kk b x q n).1, (kk b x q n).2, rfl⟩, fun b q => ?_⟩⟩
  · by_cases hb : a = p
    · rw [hb, updM_same] at q; cases q; rw [hb]; exact k
    · rw [updM_ne hb] at q
      exact (s.m a x q).stay (Same.refl _) (upd_ne hb) fun c q2 e n => kk c _ e n
  · by_cases hb : a = p
    · rw [hb]; exact s.zn h
    · rw [updM_ne hb] at q; exact s.d a x q
  · by_cases hb : b = p
    · rw [hb]; exact h
    · rw [upd_ne hb] at q; exact q
/-- a mutable object, written -/
theorem St.wr (s : St K Z M H) {p : Addr} {o : HO} {u u0 : MO} (h : M p = some u0) (k : MoIs K Z (updM M p u) (upd H p o) p u) : St K Z (updM M p u) (upd H p o) ∧ Tr Z M H Z (updM M p u) (upd H p o) := by
  have kk : ∀ b x, H b = some x → M b = none → upd H p o b = some x ∧ updM M p u b = none := fun b x q n => by
    have hb : b ≠ p := fun z => by rw [z, h] at n; cases n
    exact ⟨by rw [upd_ne hb]; exact q, by rw [updM_ne hb]; exact n⟩
  refine ⟨⟨fun b x q => ?_, fun a x q => ?_, fun a x q => ?_⟩, ⟨Same.refl _, fun b x q n => ⟨(kk b x q n).1, (kk b x q n).2, rfl⟩, fun b q => ?_⟩⟩
  · have hb : b ≠ p := fun z => by rw [z, s.d p u0 h] at q; cases q
    rw [upd_ne hb]; exact s.z b x q
  · by_cases hb : a = p
    · rw [hb, updM_same] at q; cases q; rw [hb]; exact k
    · rw [updM_ne hb] at q
      exact (s.m a x q).stay (Same.refl _) (upd_ne hb) fun c q2 e n => kk c _ e n
  · by_cases hb : a = p
    · rw [hb]; exact s.d p u0 h
    · rw [updM_ne hb] at q; exact s.d a x q
  · by_cases hb : b = p
    · rw [hb, upd_same] at q; cases q
    · rw [upd_ne hb] at q; exact q
/-- a mutable list, from now on frozen -/
theorem St.ice (s : St K Z M H) {p : Addr} {xs : List P} (h : M p = some (.lst xs)) : ∃ vs, H p = some (.lst vs) ∧ IsL K Z xs vs ∧ St K (upd Z p (.lst vs)) (eraM M p) H ∧ Tr Z M H (upd Z p (.lst vs)) (eraM M p) H := by
  obtain ⟨vs, e, l⟩ := s.m p _ h
  have sz : Same Z (upd Z p (.lst vs)) := same_upd (s.d p _ h)
  have kk : ∀ b x, H b = some x → M b = none → H b = some x ∧ eraM M p b = none := fun b x q n => by
    refine ⟨q, ?_⟩
    unfold eraM; split
    · rfl
    · exact n
  refine ⟨vs, e, l, ⟨fun b u q => ?_, fun a u q => ?_, fun a u q => ?_⟩, ⟨sz, fun b x q n => ⟨(kk b x q n).1, (kk b x q n).2, upd_ne (fun z => by rw [z, h] at n; cases n)⟩, fun b q => q⟩⟩
  · by_cases hb : b = p
    · rw [hb, upd_same] at q; rw [hb]; exact e.trans q
    · rw [upd_ne hb] at q; exact s.z b u q
  · by_cases hb : a = p
    · rw [hb, eraM_same] at q; cases q
    · rw [eraM_ne hb] at q
      exact (s.m a u q).stay sz rfl fun c q2 e n => kk c _ e n
  · by_cases hb : a = p
    · rw [hb, eraM_same] at q; cases q
    · rw [eraM_ne hb] at q
      rw [upd_ne hb]; exact s.d a u q
/-- a list that is being made (neither frozen nor known as mutable), written -/
theorem St.own (s : St K Z M H) {p : Addr} {xs ys : List V} (h : H p = some (.lst xs)) (hz : Z p = none) (hm : M p = none) : St K Z M (upd H p (.lst ys)) := by
  refine ⟨fun b u q => ?_, fun a u q => ?_, s.d⟩
  · have hb : b ≠ p := fun z => by rw [z, hz] at q; cases q
    rw [upd_ne hb]; exact s.z b u q
  · have hb : a ≠ p := fun z => by rw [z, hm] at q; cases q
    refine (s.m a u q).stay (Same.refl _) (upd_ne hb) fun c q2 e n => ⟨?_, n⟩
    have hc : c ≠ p := fun z => by
      rw [z, h] at e
      unfold LamX.CodeO at e
      cases e
    rw [upd_ne hc]; exact e
/-- less known of what is mutable -/
def SubM (M1 M : Mm) : Prop := ∀ a o, M1 a = some o → M a = some o
theorem St.less (s : St K Z M H) {M1 : Mm} (h : SubM M1 M) : St K Z M1 H ∧ Tr Z M H Z M1 H := by
  have kk : ∀ b x, H b = some x → M b = none → H b = some x ∧ M1 b = none := fun b x q n => by
    refine ⟨q, ?_⟩
    cases e : M1 b with
    | none => rfl
    | some o => rw [h b o e] at n; cases n
  exact ⟨⟨s.z, fun a u q => (s.m a u (h a u q)).stay (Same.refl _) rfl fun c q2 e n => kk c _ e n, fun a u q => s.d a u (h a u q)⟩, ⟨Same.refl _, fun b x q n => ⟨(kk b x q n).1, (kk b x q n).2, rfl⟩, fun _ q => q⟩⟩
end
def EnvOk (K : PySem.W.Frag) (Z : Hp) (ρ : Rho) (σ : L2.St) : Prop := ρ.length = σ.length ∧ ∀ (i : Nat) (p : P), ρ[i]? = some (some p) → ∃ v, σ[i]? = some (some v) ∧ Is K Z p v
theorem EnvOk.mono {K : PySem.W.Frag} {Z Z1 : Hp} {ρ : Rho} {σ : L2.St} (h : EnvOk K Z ρ σ) (s : Same Z Z1) : EnvOk K Z1 ρ σ :=
  ⟨h.1, fun i p e => let ⟨v, a, b⟩ := h.2 i p e; ⟨v, a, b.mono s⟩⟩
theorem EnvOk.set {K : PySem.W.Frag} {Z : Hp} {ρ : Rho} {σ : L2.St} {p : P} {v : V} (h : EnvOk K Z ρ σ) (a : Is K Z p v) (i : Nat) : EnvOk K Z (ρ.set i (some p)) (σ.set i (some v)) := by
  refine ⟨by rw [List.length_set, List.length_set]; exact h.1, fun j q e => ?_⟩
  by_cases hj : i = j
  · subst hj
    by_cases hl : i < ρ.length
    · rw [List.getElem?_set_self hl] at e
      cases e
      exact ⟨v, List.getElem?_set_self (by rw [← h.1]; exact hl), a⟩
    · rw [List.getElem?_eq_none (by rw [List.length_set]; omega)] at e
      cases e
  · rw [List.getElem?_set_ne hj] at e
    rw [List.getElem?_set_ne hj]
    exact h.2 j q e
theorem EnvOk.unset {K : PySem.W.Frag} {Z : Hp} {ρ : Rho} {σ : L2.St} (h : EnvOk K Z ρ σ) (i : Nat) : EnvOk K Z (ρ.set i none) (σ.set i none) := by
  refine ⟨by rw [List.length_set, List.length_set]; exact h.1, fun j q e => ?_⟩
  by_cases hj : i = j
  · subst hj
    by_cases hl : i < ρ.length
    · rw [List.getElem?_set_self hl] at e
      cases e
    · rw [List.getElem?_eq_none (by rw [List.length_set]; omega)] at e
      cases e
  · rw [List.getElem?_set_ne hj] at e
    rw [List.getElem?_set_ne hj]
    exact h.2 j q e
/-- what stands of an exception: its own dict -/
def ExD (K : PySem.W.Frag) (Z : Hp) (M : Mm) (H : Hp) (fs : List (Str × P)) (d : Option Addr) : Prop :=
  (fs = [] ∧ d = none) ∨ (fs ≠ [] ∧ ∃ a vs, d = some a ∧ Z a = some (.xd vs) ∧ IsF K Z fs vs)
/-- what is wished of exceptions: in the layer below, and here -/
structure Rz where
  W : WX
  Ψ : Value → List (Str × P) → Rho → Mm → Prop
def R0 : Rz := ⟨fun _ _ _ _ => False, fun _ _ _ _ => False⟩
def Lk (K : PySem.W.Frag) (R : Rz) (Z : Hp) (M : Mm) (H : Hp) : Prop :=
  ∀ cls fs d ρ1 σ1 Z1 M1 H1, St K Z1 M1 H1 → Tr Z M H Z1 M1 H1 → EnvOk K Z1 ρ1 σ1 → ExD K Z1 M1 H1 fs d → R.Ψ cls fs ρ1 M1 → R.W cls d σ1 H1
theorem Lk.zero {K : PySem.W.Frag} {Z : Hp} {M : Mm} {H : Hp} : Lk K R0 Z M H := fun _ _ _ _ _ _ _ _ _ _ _ _ h => h
theorem Lk.next {K : PySem.W.Frag} {R : Rz} {Z Z1 : Hp} {M M1 : Mm} {H H1 : Hp} (l : Lk K R Z M H) (t : Tr Z M H Z1 M1 H1) : Lk K R Z1 M1 H1 :=
  fun cls fs d ρ2 σ2 Z2 M2 H2 s t2 e x q => l cls fs d ρ2 σ2 Z2 M2 H2 s (t.trans t2) e x q

/-! ### the judgements -/
abbrev TD := Rho → Mm → (P → Mm → Prop) → Prop
abbrev TDt := Rho → Mm → (Bool → Mm → Prop) → Prop
abbrev TDa := Rho → Mm → (List P → Mm → Prop) → Prop
/-- what is to follow, seen from Z, M, H -/
def Kp (K : PySem.W.Frag) (Z : Hp) (M : Mm) (H : Hp) (Φ : P → Mm → Prop) (Q : VK) : Prop := ∀ p v Z1 M1 H1, St K Z1 M1 H1 → Tr Z M H Z1 M1 H1 → Is K Z1 p v → Φ p M1 → Q v H1
structure DE (X : Cx) (R : Rz) (e : Expr) (t : TD) : Prop where
  ex : ∃ ht : TE, PE X e ht ∧ ∀ Z σ H M ρ Φ Q, St X.K Z M H → EnvOk X.K Z ρ σ → Lk X.K R Z M H → t ρ M Φ → Kp X.K Z M H Φ Q → ht σ H Q
structure DT (X : Cx) (R : Rz) (e : Expr) (t : TDt) : Prop where
  ex : ∃ ht : TT, PT X e ht ∧ ∀ Z σ H M ρ Φ Q, St X.K Z M H → EnvOk X.K Z ρ σ → Lk X.K R Z M H → t ρ M Φ → (∀ b Z1 M1 H1, St X.K Z1 M1 H1 → Tr Z M H Z1 M1 H1 → Φ b M1 → Q b H1) → ht σ H Q
structure DA (X : Cx) (R : Rz) (es : List Expr) (t : TDa) : Prop where
  ex : ∃ ht : TA, PA X es ht ∧ ∀ Z σ H M ρ Φ Q, St X.K Z M H → EnvOk X.K Z ρ σ → Lk X.K R Z M H → t ρ M Φ → (∀ ps vs Z1 M1 H1, St X.K Z1 M1 H1 → Tr Z M H Z1 M1 H1 → IsL X.K Z1 ps vs → Φ ps M1 → Q vs H1) → ht σ H Q
/-! ### names, constants, argument lists -/
def lk : Rho → Nat → (P → Prop) → Prop
  | [], _, _ => False
  | some p :: _, 0, k => k p
  | none :: _, 0, _ => False
  | _ :: r, n + 1, k => lk r n k
theorem lk_get : ∀ {ρ : Rho} {i : Nat} {k : P → Prop}, lk ρ i k → ∃ p, ρ[i]? = some (some p) ∧ k p
  | [], _, _, h => h.elim
  | some p :: _, 0, k, h => ⟨p, rfl, h⟩
  | none :: _, 0, _, h => h.elim
  | a :: r, n + 1, k, h => by
    have h' : lk r n k := by cases a <;> exact h
    obtain ⟨p, e, q⟩ := lk_get h'
    exact ⟨p, by simpa using e, q⟩
def dVar (i : Nat) : TD := fun ρ M Φ => lk ρ i fun p => Φ p M
def dC (p : P) : TD := fun _ M Φ => Φ p M
section
variable {X : Cx} {R : Rz}
theorem de_of {e : Expr} {ht : TE} {t : TD} (h : PE X e ht) (k : ∀ Z σ H M ρ Φ Q, St X.K Z M H → EnvOk X.K Z ρ σ → Lk X.K R Z M H → t ρ M Φ → Kp X.K Z M H Φ Q → ht σ H Q) : DE X R e t := ⟨ht, h, k⟩
theorem de_var {i : Nat} {e : Expr} (h : PE X e (tVar i)) : DE X R e (dVar i) := de_of h fun Z σ H M ρ Φ Q s en l t k => by
  obtain ⟨p, e1, q⟩ := lk_get t
  obtain ⟨v, e2, a⟩ := en.2 i p e1
  exact ⟨v, e2, k p v Z M H s .refl a q⟩
theorem de_int {i j pos} : DE X R (.Constant (.int i) j pos) (dC (.int i)) := de_of pe_int fun Z σ H M ρ Φ Q s en l t k => k _ _ Z M H s .refl (show Is X.K Z (.int i) (.int i) from rfl) t
theorem de_bl {b j pos} : DE X R (.Constant (.bool b) j pos) (dC (.bl b)) := de_of pe_bl fun Z σ H M ρ Φ Q s en l t k => k _ _ Z M H s .refl (show Is X.K Z (.bl b) (.bl b) from rfl) t
theorem de_non {j pos} : DE X R (.Constant .none j pos) (dC .non) := de_of pe_non fun Z σ H M ρ Φ Q s en l t k => k _ _ Z M H s .refl (show Is X.K Z .non .non from rfl) t
theorem de_str {x j pos} : DE X R (.Constant (.str x) j pos) (dC (.str x)) := de_of pe_str fun Z σ H M ρ Φ Q s en l t k => k _ _ Z M H s .refl (show Is X.K Z (.str x) (.str x) from rfl) t
/-- a module's name that holds a value of a kind of its own -/
theorem de_cst {e : Expr} {v : V} {p : P} (h : PE X e (tC v)) (r : ∀ Z, Is X.K Z p v) : DE X R e (dC p) := de_of h fun Z σ H M ρ Φ Q s en l t k => k _ _ Z M H s .refl (r Z) t
def dNil : TDa := fun _ M Φ => Φ [] M
def dCons (ta : TD) (tr : TDa) : TDa := fun ρ M Φ => ta ρ M fun p M1 => tr ρ M1 fun ps M2 => Φ (p :: ps) M2
theorem da_nil : DA X R [] dNil := ⟨_, pa_nil, fun Z σ H M ρ Φ Q s en l t k => k [] [] Z M H s .refl rfl t⟩
theorem da_cons {e : Expr} {es : List Expr} {ta : TD} {tr : TDa} (ha : DE X R e ta) (hr : DA X R es tr) (hs : starEach (e :: es) X.env = (false, eval e X.env) :: starEach es X.env := by rfl) : DA X R (e :: es) (dCons ta tr) := by
  obtain ⟨h1, p1, k1⟩ := ha.ex
  obtain ⟨h2, p2, k2⟩ := hr.ex
  refine ⟨_, pa_cons p1 p2 hs, fun Z σ H M ρ Φ Q s en l t k => k1 Z σ H M ρ _ _ s en l t fun p v Z1 M1 H1 s1 t1 a1 q1 => ?_⟩
  refine k2 Z1 σ H1 M1 ρ _ _ s1 (en.mono t1.z) (l.next t1) q1 fun ps vs Z2 M2 H2 s2 t2 a2 q2 => ?_
  exact k (p :: ps) (v :: vs) Z2 M2 H2 s2 (t1.trans t2) ⟨v, vs, rfl, a1.mono t2.z, a2⟩ q2
/-! ### displays -/
def dTup (t : TDa) : TD := fun ρ M Φ => t ρ M fun ps M1 => ps.length ≤ sizeLine ∧ Φ (.tup ps) M1
def dLst (t : TDa) : TD := fun ρ M Φ => t ρ M fun ps M1 => ps.length ≤ sizeLine ∧ Φ (.lst ps) M1
def dLstM (t : TDa) : TD := fun ρ M Φ => t ρ M fun ps M1 => ps.length ≤ sizeLine ∧ ∀ a, M1 a = none → Φ (.ref a) (updM M1 a (.lst ps))
theorem de_tup {es : List Expr} {t : TDa} {x1 pos} (h : DA X R es t) : DE X R (.Tuple es x1 pos) (dTup t) := by
  obtain ⟨h1, p1, k1⟩ := h.ex
  refine de_of (pe_tup p1) fun Z σ H M ρ Φ Q s en l t k => k1 Z σ H M ρ _ _ s en l t fun ps vs Z1 M1 H1 s1 t1 a1 q1 => ?_
  refine ⟨by rw [← a1.length]; exact q1.1, fun p hp => ?_⟩
  obtain ⟨s2, t2⟩ := s1.frz (o := .tup vs) hp
  exact k (.tup ps) _ _ M1 _ s2 (t1.trans t2) ⟨p, vs, rfl, .inl (.inl upd_same), a1.mono t2.z⟩ q1.2
theorem de_lst {es : List Expr} {t : TDa} {pos} (h : DA X R es t) : DE X R (.List es pos) (dLst t) := by
  obtain ⟨h1, p1, k1⟩ := h.ex
  refine de_of (pe_lst p1) fun Z σ H M ρ Φ Q s en l t k => k1 Z σ H M ρ _ _ s en l t fun ps vs Z1 M1 H1 s1 t1 a1 q1 => ?_
  refine ⟨by rw [← a1.length]; exact q1.1, fun p hp => ?_⟩
  obtain ⟨s2, t2⟩ := s1.frz (o := .lst vs) hp
  exact k (.lst ps) _ _ M1 _ s2 (t1.trans t2) ⟨p, vs, rfl, .inl upd_same, a1.mono t2.z⟩ q1.2
theorem de_lstM {es : List Expr} {t : TDa} {pos} (h : DA X R es t) : DE X R (.List es pos) (dLstM t) := by
  obtain ⟨h1, p1, k1⟩ := h.ex
  refine de_of (pe_lst p1) fun Z σ H M ρ Φ Q s en l t k => k1 Z σ H M ρ _ _ s en l t fun ps vs Z1 M1 H1 s1 t1 a1 q1 => ?_
  refine ⟨by rw [← a1.length]; exact q1.1, fun p hp => ?_⟩
  obtain ⟨s2, t2⟩ := s1.new (u := .lst ps) (o := .lst vs) hp ⟨vs, upd_same, a1⟩
  exact k (.ref p) _ Z1 _ _ s2 (t1.trans t2) rfl (q1.2 p (s1.mn hp))
/-- a mutable list handed on: from here on frozen -/
def dFz (t : TD) : TD := fun ρ M Φ => t ρ M fun p M1 => match p with
  | .ref a => (∃ xs, M1 a = some (.lst xs) ∧ Φ (.lst xs) (eraM M1 a)) ∨ Φ (.ref a) M1
  | q => Φ q M1
theorem de_fz {e : Expr} {t : TD} (h : DE X R e t) : DE X R e (dFz t) := by
  obtain ⟨h1, p1, k1⟩ := h.ex
  refine de_of p1 fun Z σ H M ρ Φ Q s en l t k => k1 Z σ H M ρ _ _ s en l t fun p v Z1 M1 H1 s1 t1 a1 q1 => ?_
  cases p with
  | ref a =>
    rcases q1 with ⟨xs, hx, q⟩ | q
    · obtain ⟨vs, e1, l1, s2, t2⟩ := s1.ice hx
      have ev : v = .ref a := a1
      exact k (.lst xs) v _ _ H1 s2 (t1.trans t2) ⟨a, vs, ev, .inl upd_same, l1.mono t2.z⟩ q
    · exact k _ v Z1 M1 H1 s1 t1 a1 q
  | _ => exact k _ v Z1 M1 H1 s1 t1 a1 q1
end
end NC

end
section
set_option Elab.async false
set_option linter.all false
set_option maxRecDepth 100000
set_option maxHeartbeats 2000000
namespace NC
open PySem PySem.Spec PyProof.Rows L2

/-! ### data, compared -/
mutual
def toD : P → PyData
  | .non => .none
  | .bl b => .bool b
  | .int i => .int i
  | .str x => .str x
  | .tup xs => .tuple (toDs xs)
  | .lst xs => .list (toDs xs)
  | .ref _ => .none
  | .ty _ => .none
  | .exn _ _ _ => .none
def toDs : List P → List PyData
  | [] => []
  | x :: xs => toD x :: toDs xs
end
mutual
def fitP : P → Bool
  | .non => true
  | .bl _ => true
  | .int _ => true
  | .str x => PyData.strOk x
  | .tup xs => fitPs xs
  | .lst xs => fitPs xs
  | .ref _ => false
  | .ty _ => false
  | .exn _ _ _ => false
def fitPs : List P → Bool
  | [] => true
  | x :: xs => fitP x && fitPs xs
end
mutual
def dpP : P → Nat
  | .non => 0
  | .bl _ => 0
  | .int _ => 0
  | .str _ => 0
  | .tup xs => dpPs xs + 1
  | .lst xs => dpPs xs + 1
  | .ref _ => 0
  | .ty _ => 0
  | .exn _ _ _ => 0
def dpPs : List P → Nat
  | [] => 0
  | x :: xs => max (dpP x) (dpPs xs)
end
mutual
def peq : P → P → Bool
  | .non, .non => true
  | .bl a, .bl b => a == b
  | .bl a, .int j => decide ((if a then 1 else 0) = j)
  | .int i, .bl b => decide (i = (if b then 1 else 0))
  | .int i, .int j => decide (i = j)
  | .str x, .str y => decide (x = y)
  | .tup xs, .tup ys => peqs xs ys
  | .lst xs, .lst ys => peqs xs ys
  | _, _ => false
def peqs : List P → List P → Bool
  | [], [] => true
  | x :: xs, y :: ys => peq x y && peqs xs ys
  | _, _ => false
end
def okP (p : P) : Bool := fitP p && decide (dpP p ≤ 64)
mutual
theorem lay_of : ∀ p : P, fitP p = true → (toD p).canLay0 = true
  | .non, _ => rfl
  | .bl _, _ => rfl
  | .int _, _ => rfl
  | .str x, h => h
  | .tup xs, h => lays_of xs h
  | .lst xs, h => lays_of xs h
  | .ref _, h => nomatch h
  | .ty _, h => nomatch h
  | .exn _ _ _, h => nomatch h
theorem lays_of : ∀ ps : List P, fitPs ps = true → PyData.canLayAll0 (toDs ps) = true
  | [], _ => rfl
  | x :: xs, h => by
    have h2 : fitP x = true ∧ fitPs xs = true := by simpa [fitPs] using h
    show ((toD x).canLay0 && PyData.canLayAll0 (toDs xs)) = true
    rw [lay_of x h2.1, lays_of xs h2.2]
    rfl
end
mutual
theorem dp_of : ∀ p : P, (toD p).depth = dpP p
  | .non => rfl
  | .bl _ => rfl
  | .int _ => rfl
  | .str _ => rfl
  | .tup xs => congrArg (· + 1) (dps_of xs)
  | .lst xs => congrArg (· + 1) (dps_of xs)
  | .ref _ => rfl
  | .ty _ => rfl
  | .exn _ _ _ => rfl
theorem dps_of : ∀ ps : List P, PyData.depthAll (toDs ps) = dpPs ps
  | [] => rfl
  | x :: xs => by
    show max (toD x).depth (PyData.depthAll (toDs xs)) = max (dpP x) (dpPs xs)
    rw [dp_of x, dps_of xs]
end
mutual
theorem eq_of : ∀ p q : P, fitP p = true → fitP q = true → PyData.eqv (toD p) (toD q) = peq p q
  | .non, q, _, h => by cases q <;> first | rfl | (cases h)
  | .bl a, q, _, h => by cases q <;> first | rfl | (cases h) | (simp [toD, PyData.eqv, peq])
  | .int i, q, _, h => by cases q <;> first | rfl | (cases h) | (simp [toD, PyData.eqv, peq])
  | .str x, q, _, h => by cases q <;> first | rfl | (cases h) | (simp [toD, PyData.eqv, peq])
  | .tup xs, q, h1, h => by
    cases q with
    | tup ys => exact eqs_of xs ys h1 h
    | _ => first | rfl | (cases h)
  | .lst xs, q, h1, h => by
    cases q with
    | lst ys => exact eqs_of xs ys h1 h
    | _ => first | rfl | (cases h)
  | .ref _, q, h, _ => nomatch h
  | .ty _, q, h, _ => nomatch h
  | .exn _ _ _, q, h, _ => nomatch h
theorem eqs_of : ∀ ps qs : List P, fitPs ps = true → fitPs qs = true → PyData.eqvAll (toDs ps) (toDs qs) = peqs ps qs
  | [], [], _, _ => rfl
  | [], y :: ys, _, _ => rfl
  | x :: xs, [], _, _ => rfl
  | x :: xs, y :: ys, h1, h2 => by
    have a : fitP x = true ∧ fitPs xs = true := by simpa [fitPs] using h1
    have b : fitP y = true ∧ fitPs ys = true := by simpa [fitPs] using h2
    show (PyData.eqv (toD x) (toD y) && PyData.eqvAll (toDs xs) (toDs ys)) = (peq x y && peqs xs ys)
    rw [eq_of x y a.1 b.1, eqs_of xs ys a.2 b.2]
end
theorem sqL_rd {K : PySem.W.Frag} {Z H : Hp} (s : Same Z H) {a : Addr} {vs : List V} (h : Rd Z a (.lst vs)) : SqL K H a vs := .inl (rd_same s h)
mutual
theorem dp_is {K : PySem.W.Frag} {Z H : Hp} (s : Same Z H) : ∀ (p : P) (v : V), fitP p = true → Is K Z p v → Dp K H v (toD p)
  | .non, v, _, h => by cases (show v = V.non from h); exact .non
  | .bl b, v, _, h => by cases (show v = V.bl b from h); exact .bl b
  | .int i, v, _, h => by cases (show v = V.int i from h); exact .int i
  | .str x, v, _, h => by cases (show v = V.str x from h); exact .str x
  | .tup xs, v, f, h => by
    obtain ⟨a, vs, rfl, q, l⟩ := h
    exact .tup (seqT_same s q) (dps_is s xs vs f l)
  | .lst xs, v, f, h => by
    obtain ⟨a, vs, rfl, q, l⟩ := h
    exact .lst (sqL_rd s q) (dps_is s xs vs f l)
  | .ref _, v, f, _ => nomatch f
  | .ty _, v, f, _ => nomatch f
  | .exn _ _ _, v, f, _ => nomatch f
theorem dps_is {K : PySem.W.Frag} {Z H : Hp} (s : Same Z H) : ∀ (ps : List P) (vs : List V), fitPs ps = true → IsL K Z ps vs → DpAll K H vs (toDs ps)
  | [], vs, _, h => by
    have e : vs = [] := h
    rw [e]
    exact .nil
  | x :: xs, vs, f, h => by
    obtain ⟨v, r, rfl, a, l⟩ := h
    have f2 : fitP x = true ∧ fitPs xs = true := by simpa [fitPs] using f
    exact .cons (dp_is s x v f2.1 a) (dps_is s xs r f2.2 l)
end
theorem shaped_of {p : P} (h : okP p = true) : SeqAt.shaped (toD p) = true := by
  obtain ⟨h1, h2⟩ := Bool.and_eq_true_iff.mp h
  unfold SeqAt.shaped
  rw [lay_of p h1, dp_of p, h2]
  rfl
theorem fit_ok {p : P} (h : okP p = true) : fitP p = true := (Bool.and_eq_true_iff.mp h).1

/-! ### operators by values -/
abbrev W2 := P → P → Mm → (P → Mm → Prop) → Prop
def OpD (X : Cx) (f : Value → Value → Sem Value) (w : W2) : Prop :=
  ∃ r : R2, OpR X f r ∧ ∀ Z M H p q x y Φ Q, St X.K Z M H → Is X.K Z p x → Is X.K Z q y → w p q M Φ → Kp X.K Z M H Φ Q → r x y H Q
def dBin (w : W2) (ta tb : TD) : TD := fun ρ M Φ => ta ρ M fun p M1 => tb ρ M1 fun q M2 => w p q M2 Φ
section
variable {X : Cx} {R : Rz}
theorem OpD.or {f : Value → Value → Sem Value} {w1 w2 : W2} (h1 : OpD X f w1) (h2 : OpD X f w2) : OpD X f (fun p q M Φ => w1 p q M Φ ∨ w2 p q M Φ) := by
  obtain ⟨r1, o1, k1⟩ := h1
  obtain ⟨r2, o2, k2⟩ := h2
  refine ⟨_, o1.or o2, fun Z M H p q x y Φ Q s a b t k => ?_⟩
  rcases t with t | t
  · exact .inl (k1 Z M H p q x y Φ Q s a b t k)
  · exact .inr (k2 Z M H p q x y Φ Q s a b t k)
theorem OpD.imp {f : Value → Value → Sem Value} {w1 w2 : W2} (h1 : OpD X f w1) (h : ∀ p q M Φ, w2 p q M Φ → w1 p q M Φ) : OpD X f w2 := by
  obtain ⟨r1, o1, k1⟩ := h1
  exact ⟨r1, o1, fun Z M H p q x y Φ Q s a b t k => k1 Z M H p q x y Φ Q s a b (h _ _ _ _ t) k⟩
theorem two_of {ta tb : TE} {t1 t2 : TD} {Z : Hp} {σ : L2.St} {H : Hp} {M : Mm} {ρ : Rho} {w : W2} {r : R2} {Φ : P → Mm → Prop} {Q : VK}
    (k1 : ∀ Z σ H M ρ Φ Q, St X.K Z M H → EnvOk X.K Z ρ σ → Lk X.K R Z M H → t1 ρ M Φ → Kp X.K Z M H Φ Q → ta σ H Q) (k2 : ∀ Z σ H M ρ Φ Q, St X.K Z M H → EnvOk X.K Z ρ σ → Lk X.K R Z M H → t2 ρ M Φ → Kp X.K Z M H Φ Q → tb σ H Q)
    (k : ∀ Z M H p q x y Φ Q, St X.K Z M H → Is X.K Z p x → Is X.K Z q y → w p q M Φ → Kp X.K Z M H Φ Q → r x y H Q)
    (s : St X.K Z M H) (en : EnvOk X.K Z ρ σ) (l : Lk X.K R Z M H) (t : dBin w t1 t2 ρ M Φ) (kk : Kp X.K Z M H Φ Q) : tOp r ta tb σ H Q := by
  refine k1 Z σ H M ρ _ _ s en l t fun p v Z1 M1 H1 s1 r1 a1 q1 => ?_
  refine k2 Z1 σ H1 M1 ρ _ _ s1 (en.mono r1.z) (l.next r1) q1 fun q u Z2 M2 H2 s2 r2 a2 q2 => ?_
  exact k Z2 M2 H2 p q v u _ _ s2 (a1.mono r2.z) a2 q2 fun p' v' Z3 M3 H3 s3 r3 a3 q3 => kk p' v' Z3 M3 H3 s3 ((r1.trans r2).trans r3) a3 q3
theorem de_bin {a b : Expr} {op : Operator} {w : W2} {ta tb : TD} {pos} (o : OpD X (binaryOp op) w) (ha : DE X R a ta) (hb : DE X R b tb) : DE X R (.BinOp a op b pos) (dBin w ta tb) := by
  obtain ⟨h1, p1, k1⟩ := ha.ex
  obtain ⟨h2, p2, k2⟩ := hb.ex
  obtain ⟨r, o1, k⟩ := o
  exact de_of (pe_op o1 p1 p2) fun Z σ H M ρ Φ Q s en l t kk => two_of k1 k2 k s en l t kk
theorem de_cmp {a b : Expr} {op : CmpOp} {w : W2} {ta tb : TD} {pos} (o : OpD X (compareOp op) w) (ha : DE X R a ta) (hb : DE X R b tb) (hm : behindInMarks op b = false) : DE X R (.Compare a [op] [b] pos) (dBin w ta tb) := by
  obtain ⟨h1, p1, k1⟩ := ha.ex
  obtain ⟨h2, p2, k2⟩ := hb.ex
  obtain ⟨r, o1, k⟩ := o
  exact de_of (pe_cmpR o1 p1 p2 hm) fun Z σ H M ρ Φ Q s en l t kk => two_of k1 k2 k s en l t kk
/-- a value that is a truth -/
def asB (p : P) (k : Bool → Prop) : Prop := match p with
  | .bl b => k b
  | _ => False
def dTest (t : TD) : TDt := fun ρ M Φ => t ρ M fun p M1 => asB p fun b => Φ b M1
theorem asB_of {p : P} {k : Bool → Prop} (h : asB p k) : ∃ b, p = .bl b ∧ k b := by
  cases p with
  | bl b => exact ⟨b, rfl, h⟩
  | _ => exact h.elim
theorem dt_cmp {a b : Expr} {op : CmpOp} {w : W2} {ta tb : TD} {pos} (o : OpD X (compareOp op) w) (ha : DE X R a ta) (hb : DE X R b tb) (hm : behindInMarks op b = false) : DT X R (.Compare a [op] [b] pos) (dTest (dBin w ta tb)) := by
  obtain ⟨h1, p1, k1⟩ := ha.ex
  obtain ⟨h2, p2, k2⟩ := hb.ex
  obtain ⟨r, o1, k⟩ := o
  refine ⟨_, pt_cmpR o1 p1 p2 hm, fun Z σ H M ρ Φ Q s en l t kk => two_of k1 k2 k s en l t fun p v Z1 M1 H1 s1 r1 a1 q1 => ?_⟩
  obtain ⟨b, rfl, q⟩ := asB_of q1
  exact ⟨b, a1, kk b Z1 M1 H1 s1 r1 q⟩
/-- a < b < c -/
def dChain (w w' : W2) (ta tb tc : TD) : TD := fun ρ M Φ => ta ρ M fun p M1 => tb ρ M1 fun q M2 => w p q M2 fun z M3 => asB z fun k => if k = true then tc ρ M3 fun u M4 => w' q u M4 Φ else Φ (.bl false) M3
theorem chain_of {ta tb tc : TE} {t1 t2 t3 : TD} {Z : Hp} {σ : L2.St} {H : Hp} {M : Mm} {ρ : Rho} {w w' : W2} {r r' : R2} {Φ : P → Mm → Prop} {Q : VK}
    (k1 : ∀ Z σ H M ρ Φ Q, St X.K Z M H → EnvOk X.K Z ρ σ → Lk X.K R Z M H → t1 ρ M Φ → Kp X.K Z M H Φ Q → ta σ H Q) (k2 : ∀ Z σ H M ρ Φ Q, St X.K Z M H → EnvOk X.K Z ρ σ → Lk X.K R Z M H → t2 ρ M Φ → Kp X.K Z M H Φ Q → tb σ H Q)
    (k3 : ∀ Z σ H M ρ Φ Q, St X.K Z M H → EnvOk X.K Z ρ σ → Lk X.K R Z M H → t3 ρ M Φ → Kp X.K Z M H Φ Q → tc σ H Q)
    (k : ∀ Z M H p q x y Φ Q, St X.K Z M H → Is X.K Z p x → Is X.K Z q y → w p q M Φ → Kp X.K Z M H Φ Q → r x y H Q)
    (k' : ∀ Z M H p q x y Φ Q, St X.K Z M H → Is X.K Z p x → Is X.K Z q y → w' p q M Φ → Kp X.K Z M H Φ Q → r' x y H Q)
    (s : St X.K Z M H) (en : EnvOk X.K Z ρ σ) (l : Lk X.K R Z M H) (t : dChain w w' t1 t2 t3 ρ M Φ) (kk : Kp X.K Z M H Φ Q) : tChain r r' ta tb tc σ H Q := by
  refine k1 Z σ H M ρ _ _ s en l t fun p v Z1 M1 H1 s1 r1 a1 q1 => ?_
  refine k2 Z1 σ H1 M1 ρ _ _ s1 (en.mono r1.z) (l.next r1) q1 fun q u Z2 M2 H2 s2 r2 a2 q2 => ?_
  refine k Z2 M2 H2 p q v u _ _ s2 (a1.mono r2.z) a2 q2 fun p' v' Z3 M3 H3 s3 r3 a3 q3 => ?_
  obtain ⟨b, rfl, q⟩ := asB_of q3
  refine ⟨b, a3, ?_⟩
  have t3' := (r1.trans r2).trans r3
  cases b with
  | false => exact kk (.bl false) _ Z3 M3 H3 s3 t3' rfl q
  | true =>
    refine k3 Z3 σ H3 M3 ρ _ _ s3 (en.mono t3'.z) (l.next t3') q fun z w0 Z4 M4 H4 s4 r4 a4 q4 => ?_
    exact k' Z4 M4 H4 _ z u w0 _ _ s4 (a2.mono (r3.trans r4).z) a4 q4 fun p5 v5 Z5 M5 H5 s5 r5 a5 q5 => kk p5 v5 Z5 M5 H5 s5 ((t3'.trans r4).trans r5) a5 q5
theorem de_chain {a b c : Expr} {op op' : CmpOp} {w w' : W2} {ta tb tc : TD} {pos} (o : OpD X (compareOp op) w) (o' : OpD X (compareOp op') w') (ha : DE X R a ta) (hb : DE X R b tb) (hc : DE X R c tc) (hm : lastMarks [op, op'] [b, c] = false := by with_unfolding_all rfl) : DE X R (.Compare a [op, op'] [b, c] pos) (dChain w w' ta tb tc) := by
  obtain ⟨h1, p1, k1⟩ := ha.ex
  obtain ⟨h2, p2, k2⟩ := hb.ex
  obtain ⟨h3, p3, k3⟩ := hc.ex
  obtain ⟨r, o1, k⟩ := o
  obtain ⟨r', o1', k'⟩ := o'
  exact de_of (pe_chain o1 o1' p1 p2 p3 hm) fun Z σ H M ρ Φ Q s en l t kk => chain_of k1 k2 k3 k k' s en l t kk
theorem dt_chain {a b c : Expr} {op op' : CmpOp} {w w' : W2} {ta tb tc : TD} {pos} (o : OpD X (compareOp op) w) (o' : OpD X (compareOp op') w') (ha : DE X R a ta) (hb : DE X R b tb) (hc : DE X R c tc) (hm : lastMarks [op, op'] [b, c] = false := by with_unfolding_all rfl) : DT X R (.Compare a [op, op'] [b, c] pos) (dTest (dChain w w' ta tb tc)) := by
  obtain ⟨h1, p1, k1⟩ := ha.ex
  obtain ⟨h2, p2, k2⟩ := hb.ex
  obtain ⟨h3, p3, k3⟩ := hc.ex
  obtain ⟨r, o1, k⟩ := o
  obtain ⟨r', o1', k'⟩ := o'
  refine ⟨_, pt_chain o1 o1' p1 p2 p3 hm, fun Z σ H M ρ Φ Q s en l t kk => chain_of k1 k2 k3 k k' s en l t fun p v Z1 M1 H1 s1 r1 a1 q1 => ?_⟩
  obtain ⟨b, rfl, q⟩ := asB_of q1
  exact ⟨b, a1, kk b Z1 M1 H1 s1 r1 q⟩
end
end NC

end
section
set_option Elab.async false
set_option linter.all false
set_option maxRecDepth 100000
set_option maxHeartbeats 2000000
namespace NC
open PySem PySem.Spec PyProof.Rows L2

/-! ### lists that are read -/
def lsW (p : P) (M : Mm) (k : List P → Prop) : Prop := match p with
  | .lst xs => k xs
  | .ref a => ∃ xs, M a = some (.lst xs) ∧ k xs
  | _ => False
theorem ls_of {K : PySem.W.Frag} {Z : Hp} {M : Mm} {H : Hp} {p : P} {v : V} {k : List P → Prop} (s : St K Z M H) (a : Is K Z p v) (h : lsW p M k) : ∃ xs b vs, k xs ∧ v = .ref b ∧ Rd H b (.lst vs) ∧ IsL K Z xs vs := by
  cases p with
  | lst xs =>
    obtain ⟨b, vs, e, q, l⟩ := a
    exact ⟨xs, b, vs, h, e, rd_same s.z q, l⟩
  | ref b =>
    obtain ⟨xs, hx, q⟩ := h
    obtain ⟨vs, e, l⟩ := s.m b _ hx
    exact ⟨xs, b, vs, q, a, .inl e, l⟩
  | _ => exact h.elim
/-- a tuple or a list -/
def sqW (p : P) (M : Mm) (k : List P → Prop) : Prop := match p with
  | .tup xs => k xs
  | .lst xs => k xs
  | .ref a => ∃ xs, M a = some (.lst xs) ∧ k xs
  | _ => False
theorem sq_of {K : PySem.W.Frag} {Z : Hp} {M : Mm} {H : Hp} {p : P} {v : V} {k : List P → Prop} (s : St K Z M H) (a : Is K Z p v) (h : sqW p M k) : ∃ xs b vs, k xs ∧ v = .ref b ∧ (SqL K H b vs ∨ SqT K H b vs) ∧ IsL K Z xs vs := by
  cases p with
  | tup xs =>
    obtain ⟨b, vs, e, q, l⟩ := a
    exact ⟨xs, b, vs, h, e, .inr (seqT_same s.z q), l⟩
  | lst xs =>
    obtain ⟨b, vs, e, q, l⟩ := a
    exact ⟨xs, b, vs, h, e, .inl (sqL_rd s.z q), l⟩
  | ref b =>
    obtain ⟨xs, hx, q⟩ := h
    obtain ⟨vs, e, l⟩ := s.m b _ hx
    exact ⟨xs, b, vs, q, a, .inl (.of e), l⟩
  | _ => exact h.elim
def deref (M : Mm) (p : P) : P := match p with
  | .ref a => (match M a with
    | some (.lst xs) => .lst xs
    | _ => .ref a)
  | q => q
theorem dp_deref {K : PySem.W.Frag} {Z : Hp} {M : Mm} {H : Hp} {p : P} {v : V} (s : St K Z M H) (a : Is K Z p v) (f : fitP (deref M p) = true) : Dp K H v (toD (deref M p)) := by
  cases p with
  | ref b =>
    cases e : M b with
    | none =>
      have e1 : deref M (.ref b) = .ref b := by simp only [deref, e]
      rw [e1] at f
      cases f
    | some o =>
      cases o with
      | lst xs =>
        have e1 : deref M (.ref b) = .lst xs := by simp only [deref, e]
        rw [e1] at f ⊢
        obtain ⟨vs, h1, l⟩ := s.m b _ e
        have ev : v = .ref b := a
        rw [ev]
        exact .lst (.of h1) (dps_is s.z xs vs f l)
      | _ =>
        have e1 : deref M (.ref b) = .ref b := by simp only [deref, e]
        rw [e1] at f
        cases f
  | _ => exact dp_is s.z _ v f a

/-! ### list + list, for lists that are read -/
section
variable {X : Cx} {R : Rz}
def rCatS : R2 := fun x y H Q => ∃ l b xs zs, x = .ref l ∧ y = .ref b ∧ Rd H l (.lst xs) ∧ Rd H b (.lst zs) ∧ xs.length + zs.length ≤ sizeLine ∧ ∀ p, H p = none → Q (.ref p) (upd H p (.lst (xs ++ zs)))
theorem rd_lst {pins : List (Addr × Obj)} {σ : L2.St} {H : Hp} {s : Shared} {l : Addr} {xs : List V} (I : Inv X pins σ H s) (h : Rd H l (.lst xs)) :
    xs.length ≤ sizeLine ∧ ∃ (its : List Value) (n : Nat), Vals xs its ∧ xs.length = its.length ∧ s.heap.get? l = some { cls := .type "list", data := .seq its.toArray n } := by
  obtain ⟨z, its, n, r, e⟩ := h.ok I.hok
  exact ⟨z, its, n, r, r.length, e⟩
theorem op_catS : OpR X (binaryOp .Add) rCatS := by
  intro pins s σ H x y v u Q I rx ry h
  obtain ⟨l, b, xs, zs, ex, ey, hl, hb, hz, q⟩ := h
  subst ex ey
  cases rx
  cases ry
  obtain ⟨z1, its, n, r1, hn, e1⟩ := rd_lst I hl
  obtain ⟨z2, its2, n2, r2, hn2, e2⟩ := rd_lst I hb
  refine PySem.P.add_list e1 e2 ?_ (by rw [List.size_toArray, List.size_toArray, ← hn, ← hn2]; exact hz)
  have ea : its.toArray ++ its2.toArray = (its ++ its2).toArray := by simp
  rw [ea]
  exact ⟨.ref _, _, I.lnew (t' := s.toks) (r1.append r2) (by rw [List.length_append]; exact hz), rfl, q _ I.fresh⟩
/-! ### + -/
def addW : W2 := fun p q M Φ => match p, q with
  | .int i, .int j => Φ (.int (i + j)) M
  | .str a, .str b => a.length + b.length ≤ sizeLine ∧ Φ (.str (a ++ b)) M
  | .tup a, .tup b => a.length + b.length ≤ sizeLine ∧ Φ (.tup (a ++ b)) M
  | .lst a, .lst b => a.length + b.length ≤ sizeLine ∧ Φ (.lst (a ++ b)) M
  | .ref a, q => lsW (.ref a) M fun xs => lsW q M fun ys => xs.length + ys.length ≤ sizeLine ∧ Φ (.lst (xs ++ ys)) M
  | p, .ref a => lsW p M fun xs => lsW (.ref a) M fun ys => xs.length + ys.length ≤ sizeLine ∧ Φ (.lst (xs ++ ys)) M
  | _, _ => False
/-- .. the new list mutable -/
def addMW : W2 := fun p q M Φ => lsW p M fun xs => lsW q M fun ys => xs.length + ys.length ≤ sizeLine ∧ ∀ a, M a = none → Φ (.ref a) (updM M a (.lst (xs ++ ys)))
theorem opd_addI : OpD X (binaryOp .Add) (fun p q M Φ => match p, q with | .int i, .int j => Φ (.int (i + j)) M | _, _ => False) := by
  refine ⟨_, op_add, fun Z M H p q x y Φ Q s a b t k => ?_⟩
  cases p <;> cases q <;> first | exact t.elim | skip
  rename_i i j
  have ex : x = .int i := a
  have ey : y = .int j := b
  exact ⟨i, j, ex, ey, k _ _ Z M H s .refl (show Is X.K Z (.int (i + j)) (.int (i + j)) from rfl) t⟩
theorem opd_addS : OpD X (binaryOp .Add) (fun p q M Φ => match p, q with | .str a, .str b => a.length + b.length ≤ sizeLine ∧ Φ (.str (a ++ b)) M | _, _ => False) := by
  refine ⟨_, op_add_str, fun Z M H p q x y Φ Q s a b t k => ?_⟩
  cases p <;> cases q <;> first | exact t.elim | skip
  rename_i i j
  have ex : x = .str i := a
  have ey : y = .str j := b
  exact ⟨i, j, ex, ey, t.1, k _ _ Z M H s .refl (show Is X.K Z (.str (i ++ j)) (.str (i ++ j)) from rfl) t.2⟩
theorem nil_of {K : PySem.W.Frag} {Z : Hp} {xs : List P} (h : IsL K Z xs []) : xs = [] := by
  have e := h.length
  simpa using e
theorem opd_addT : OpD X (binaryOp .Add) (fun p q M Φ => match p, q with | .tup a, .tup b => a.length + b.length ≤ sizeLine ∧ Φ (.tup (a ++ b)) M | _, _ => False) := by
  refine ⟨_, op_catA, fun Z M H p q x y Φ Q s a b t k => ?_⟩
  cases p <;> cases q <;> first | exact t.elim | skip
  rename_i xs ys
  obtain ⟨c, vs, ex, h1, l1⟩ := a
  obtain ⟨d, ws, ey, h2, l2⟩ := b
  refine ⟨c, d, vs, ws, ex, ey, seqT_same s.z h1, seqT_same s.z h2, by rw [← l1.length, ← l2.length]; exact t.1, fun e => ?_, fun _ e => ?_, fun n1 n2 p hp => ?_⟩
  · subst e
    have e2 := nil_of l1
    subst e2
    exact k (.tup ([] ++ ys)) _ Z M H s .refl ⟨d, ws, rfl, h2, l2⟩ t.2
  · subst e
    have e2 := nil_of l2
    subst e2
    exact k (.tup (xs ++ [])) _ Z M H s .refl ⟨c, vs, rfl, h1, by rw [List.append_nil]; exact l1⟩ t.2
  · obtain ⟨s2, t2⟩ := s.frz (o := .tup (vs ++ ws)) hp
    exact k (.tup (xs ++ ys)) _ _ M _ s2 t2 ⟨p, vs ++ ws, rfl, .inl (.inl upd_same), (l1.append l2).mono t2.z⟩ t.2
theorem opd_addL : OpD X (binaryOp .Add) (fun p q M Φ => lsW p M fun xs => lsW q M fun ys => xs.length + ys.length ≤ sizeLine ∧ Φ (.lst (xs ++ ys)) M) := by
  refine ⟨_, op_catS, fun Z M H p q x y Φ Q s a b t k => ?_⟩
  obtain ⟨xs, c, vs, t1, ex, h1, l1⟩ := ls_of s a t
  obtain ⟨ys, d, ws, t2, ey, h2, l2⟩ := ls_of s b t1
  refine ⟨c, d, vs, ws, ex, ey, h1, h2, by rw [← l1.length, ← l2.length]; exact t2.1, fun p hp => ?_⟩
  obtain ⟨s2, r2⟩ := s.frz (o := .lst (vs ++ ws)) hp
  exact k (.lst (xs ++ ys)) _ _ M _ s2 r2 ⟨p, vs ++ ws, rfl, .inl upd_same, (l1.append l2).mono r2.z⟩ t2.2
theorem opd_addM : OpD X (binaryOp .Add) addMW := by
  refine ⟨_, op_catS, fun Z M H p q x y Φ Q s a b t k => ?_⟩
  obtain ⟨xs, c, vs, t1, ex, h1, l1⟩ := ls_of s a t
  obtain ⟨ys, d, ws, t2, ey, h2, l2⟩ := ls_of s b t1
  refine ⟨c, d, vs, ws, ex, ey, h1, h2, by rw [← l1.length, ← l2.length]; exact t2.1, fun p hp => ?_⟩
  obtain ⟨s2, r2⟩ := s.new (u := .lst (xs ++ ys)) (o := .lst (vs ++ ws)) hp ⟨vs ++ ws, upd_same, l1.append l2⟩
  exact k (.ref p) _ Z _ _ s2 r2 rfl (t2.2 p (s.mn hp))
theorem opd_add : OpD X (binaryOp .Add) addW := by
  refine (opd_addI.or (opd_addS.or (opd_addT.or opd_addL))).imp fun p q M Φ h => ?_
  cases p <;> cases q <;> first
    | exact .inl h
    | exact .inr (.inl h)
    | exact .inr (.inr (.inl h))
    | exact .inr (.inr (.inr h))
    | exact absurd h (by simp [addW])
/-! ### - * // % ** -/
def intW (C : Int → Int → Prop) (g : Int → Int → P) : W2 := fun p q M Φ => match p, q with
  | .int i, .int j => C i j ∧ Φ (g i j) M
  | _, _ => False
def int0 (g : Int → Int → P) : W2 := fun p q M Φ => match p, q with
  | .int i, .int j => Φ (g i j) M
  | _, _ => False
theorem opd_int {f : Value → Value → Sem Value} {C : Int → Int → Prop} {g : Int → Int → V} {g' : Int → Int → P} (o : OpR X f (rI C g)) (r : ∀ Z i j, Is X.K Z (g' i j) (g i j)) : OpD X f (intW C g') := by
  refine ⟨_, o, fun Z M H p q x y Φ Q s a b t k => ?_⟩
  cases p <;> cases q <;> first | exact t.elim | skip
  rename_i i j
  have ex : x = .int i := a
  have ey : y = .int j := b
  exact ⟨i, j, ex, ey, t.1, k _ _ Z M H s .refl (r Z i j) t.2⟩
theorem opd_int0 {f : Value → Value → Sem Value} {g : Int → Int → V} {g' : Int → Int → P} (o : OpR X f (rI0 g)) (r : ∀ Z i j, Is X.K Z (g' i j) (g i j)) : OpD X f (int0 g') := by
  refine ⟨_, o, fun Z M H p q x y Φ Q s a b t k => ?_⟩
  cases p <;> cases q <;> first | exact t.elim | skip
  rename_i i j
  have ex : x = .int i := a
  have ey : y = .int j := b
  exact ⟨i, j, ex, ey, k _ _ Z M H s .refl (r Z i j) t⟩
theorem opd_sub : OpD X (binaryOp .Sub) (int0 fun i j => .int (i - j)) := opd_int0 op_sub fun _ _ _ => rfl
theorem opd_fdiv : OpD X (binaryOp .FloorDiv) (intW CDivW fun i j => .int (i / j)) := opd_int op_fdivW fun _ _ _ => rfl
theorem opd_mod : OpD X (binaryOp .Mod) (intW (fun _ j => 0 < j) fun i j => .int (i % j)) := opd_int op_mod fun _ _ _ => rfl
def CPowW (i j : Int) : Prop := 0 ≤ j ∧ (Builtin.Int.intBits i : Int) * j ≤ 2 ^ 27
theorem op_powW : OpR X (binaryOp .Pow) (rI CPowW fun i j => .int (i ^ j.toNat)) := opI fun _ _ _ _ _ _ _ hc q => pow_int hc.1 hc.2 q
theorem opd_pow : OpD X (binaryOp .Pow) (intW CPowW fun i j => .int (i ^ j.toNat)) := opd_int op_powW fun _ _ _ => rfl
def mulW : W2 := fun p q M Φ => match p, q with
  | .int i, .int j => CMulW i j ∧ Φ (.int (i * j)) M
  | .lst xs, .int k => (-(2 ^ 63) ≤ k ∧ k < 2 ^ 63 ∧ xs.length * k.toNat ≤ sizeLine) ∧ Φ (.lst (List.replicate k.toNat xs).flatten) M
  | .tup xs, .int k => (xs ≠ [] ∧ 2 ≤ k ∧ k ≤ 1000 ∧ xs.length ≤ 1000) ∧ Φ (.tup (List.replicate k.toNat xs).flatten) M
  | _, _ => False
theorem IsL.rep {K : PySem.W.Frag} {Z : Hp} {ps : List P} {vs : List V} (h : IsL K Z ps vs) : ∀ k : Nat, IsL K Z (List.replicate k ps).flatten (List.replicate k vs).flatten
  | 0 => rfl
  | k + 1 => by
    rw [List.replicate_succ, List.replicate_succ, List.flatten_cons, List.flatten_cons]
    exact h.append (IsL.rep h k)
def rRepS : R2 := fun x y H Q => ∃ l k xs, x = .ref l ∧ y = .int k ∧ Rd H l (.lst xs) ∧ -(2 ^ 63) ≤ k ∧ k < 2 ^ 63 ∧ xs.length * k.toNat ≤ sizeLine ∧ ∀ p, H p = none → Q (.ref p) (upd H p (.lst (List.replicate k.toNat xs).flatten))
theorem opd_mulI : OpD X (binaryOp .Mult) (intW CMulW fun i j => .int (i * j)) := opd_int op_mulW fun _ _ _ => rfl
theorem opd_mulT : OpD X (binaryOp .Mult) (fun p q M Φ => match p, q with | .tup xs, .int k => (xs ≠ [] ∧ 2 ≤ k ∧ k ≤ 1000 ∧ xs.length ≤ 1000) ∧ Φ (.tup (List.replicate k.toNat xs).flatten) M | _, _ => False) := by
  refine ⟨_, op_repT, fun Z M H p q x y Φ Q s a b t k => ?_⟩
  cases p <;> cases q <;> first | exact t.elim | skip
  rename_i xs j
  obtain ⟨c, vs, ex, h1, l1⟩ := a
  have ey : y = .int j := b
  obtain ⟨⟨n0, n1, n2, n3⟩, q⟩ := t
  refine ⟨c, j, vs, ex, ey, seqT_same s.z h1, fun e => ?_, n1, n2, by rw [← l1.length]; exact n3, fun p hp => ?_⟩
  · subst e
    exact n0 (nil_of l1)
  · obtain ⟨s2, t2⟩ := s.frz (o := .tup (List.replicate j.toNat vs).flatten) hp
    exact k (.tup (List.replicate j.toNat xs).flatten) _ _ M _ s2 t2 ⟨p, _, rfl, .inl (.inl upd_same), (l1.rep _).mono t2.z⟩ q
/-! ### comparisons -/
theorem opd_lt : OpD X (compareOp .Lt) (int0 fun i j => .bl (decide (i < j))) := opd_int0 op_lt fun _ _ _ => rfl
theorem opd_le : OpD X (compareOp .LtE) (int0 fun i j => .bl (decide (i ≤ j))) := opd_int0 op_le fun _ _ _ => rfl
theorem opd_gt : OpD X (compareOp .Gt) (int0 fun i j => .bl (decide (j < i))) := opd_int0 op_gt fun _ _ _ => rfl
theorem opd_ge : OpD X (compareOp .GtE) (int0 fun i j => .bl (decide (j ≤ i))) := opd_int0 op_ge fun _ _ _ => rfl
def eqW : W2 := fun p q M Φ => (okP (deref M p) = true ∧ okP (deref M q) = true) ∧ Φ (.bl (peq (deref M p) (deref M q))) M
def neW : W2 := fun p q M Φ => (okP (deref M p) = true ∧ okP (deref M q) = true) ∧ Φ (.bl (!peq (deref M p) (deref M q))) M
theorem opd_eq (hu : X.A.units + 64 < cLine) : OpD X (compareOp .Eq) eqW := by
  refine ⟨_, op_eqD hu, fun Z M H p q x y Φ Q s a b t k => ?_⟩
  obtain ⟨⟨f1, f2⟩, t⟩ := t
  refine ⟨_, _, dp_deref s a (fit_ok f1), dp_deref s b (fit_ok f2), shaped_of f1, shaped_of f2, ?_⟩
  rw [eq_of _ _ (fit_ok f1) (fit_ok f2)]
  exact k _ _ Z M H s .refl (show Is X.K Z (.bl _) (.bl _) from rfl) t
theorem opd_ne (hu : X.A.units + 64 < cLine) : OpD X (compareOp .NotEq) neW := by
  refine ⟨_, op_neD hu, fun Z M H p q x y Φ Q s a b t k => ?_⟩
  obtain ⟨⟨f1, f2⟩, t⟩ := t
  refine ⟨_, _, dp_deref s a (fit_ok f1), dp_deref s b (fit_ok f2), shaped_of f1, shaped_of f2, ?_⟩
  rw [eq_of _ _ (fit_ok f1) (fit_ok f2)]
  exact k _ _ Z M H s .refl (show Is X.K Z (.bl _) (.bl _) from rfl) t
/-- is None; is True -/
def nonB : P → Bool
  | .non => true
  | _ => false
theorem non_dec {K : PySem.W.Frag} {Z : Hp} {p : P} {x : V} (a : Is K Z p x) : decide (x = .non) = nonB p := by
  cases p with
  | non => have e : x = .non := a; rw [e]; rfl
  | bl b => have e : x = .bl b := a; rw [e]; rfl
  | int i => have e : x = .int i := a; rw [e]; rfl
  | str z => have e : x = .str z := a; rw [e]; rfl
  | ref b => have e : x = .ref b := a; rw [e]; rfl
  | ty n => have e : x = .ty n := a; rw [e]; rfl
  | exn b d n => have e : x = .ref b := a.1; rw [e]; rfl
  | tup xs => obtain ⟨b, vs, e, _⟩ := a; rw [e]; rfl
  | lst xs => obtain ⟨b, vs, e, _⟩ := a; rw [e]; rfl
def isNonW : W2 := fun p q M Φ => match q with
  | .non => Φ (.bl (nonB p)) M
  | _ => False
def notNonW : W2 := fun p q M Φ => match q with
  | .non => Φ (.bl (!nonB p)) M
  | _ => False
theorem opd_isN : OpD X (compareOp .Is) isNonW := by
  refine ⟨_, op_isN, fun Z M H p q x y Φ Q s a b t k => ?_⟩
  cases q <;> first | exact t.elim | skip
  have ey : y = .non := b
  refine ⟨ey, ?_⟩
  rw [non_dec a]
  exact k _ _ Z M H s .refl (show Is X.K Z (.bl _) (.bl _) from rfl) t
theorem opd_notN : OpD X (compareOp .IsNot) notNonW := by
  refine ⟨_, op_notN, fun Z M H p q x y Φ Q s a b t k => ?_⟩
  cases q <;> first | exact t.elim | skip
  have ey : y = .non := b
  refine ⟨ey, ?_⟩
  rw [non_dec a]
  exact k _ _ Z M H s .refl (show Is X.K Z (.bl _) (.bl _) from rfl) t
end
end NC

end
section
set_option Elab.async false
set_option linter.all false
set_option maxRecDepth 100000
set_option maxHeartbeats 2000000
namespace NC
open PySem PySem.Spec PyProof.Rows L2
section
variable {X : Cx} {R : Rz}
/-! ### tests, and, or, not, a if t else b -/
/-- a value's truth -/
def truW (p : P) (M : Mm) (k : Bool → Prop) : Prop := match p with
  | .non => k false
  | .bl b => k b
  | .int i => k (i != 0)
  | .str y => y.length ≤ sizeLine ∧ k ((y.length : Int) != 0)
  | .tup xs => k (!xs.isEmpty)
  | .lst xs => k (!xs.isEmpty)
  | .ref a => ∃ xs, M a = some (.lst xs) ∧ k (!xs.isEmpty)
  | _ => False
theorem emp_of {K : PySem.W.Frag} {Z : Hp} {ps : List P} {vs : List V} (h : IsL K Z ps vs) : (!vs.isEmpty) = !ps.isEmpty := by
  cases ps with
  | nil => have e : vs = [] := h; rw [e]; rfl
  | cons x xs => obtain ⟨v, r, e, _⟩ := h; rw [e]; rfl
theorem tru_of {K : PySem.W.Frag} {Z : Hp} {M : Mm} {H : Hp} {p : P} {v : V} {k : Bool → Prop} (s : St K Z M H) (a : Is K Z p v) (h : truW p M k) : ∃ b, TruV K v H b ∧ k b := by
  cases p with
  | non => have e : v = .non := a; rw [e]; exact ⟨false, rfl, h⟩
  | bl b => have e : v = .bl b := a; rw [e]; exact ⟨b, rfl, h⟩
  | int i => have e : v = .int i := a; rw [e]; exact ⟨_, rfl, h⟩
  | str z => have e : v = .str z := a; rw [e]; exact ⟨_, ⟨h.1, rfl⟩, h.2⟩
  | tup xs => obtain ⟨b, vs, e, q, l⟩ := a; rw [e]; exact ⟨_, .inr (.inl ⟨vs, seqT_same s.z q, (emp_of l).symm⟩), h⟩
  | lst xs => obtain ⟨b, vs, e, q, l⟩ := a; rw [e]; exact ⟨_, .inl ⟨vs, sqL_rd s.z q, (emp_of l).symm⟩, h⟩
  | ref b =>
    have e : v = .ref b := a
    obtain ⟨xs, hx, q⟩ := h
    obtain ⟨vs, h1, l⟩ := s.m b _ hx
    rw [e]
    exact ⟨_, .inl ⟨vs, .of h1, (emp_of l).symm⟩, q⟩
  | _ => exact h.elim
def dTru (t : TD) : TDt := fun ρ M Φ => t ρ M fun p M1 => truW p M1 fun b => Φ b M1
theorem dt_tru {e : Expr} {t : TD} (h : DE X R e t) (he : ∀ whole, isTrue e X.env whole = (do let v ← whole; standAt e.pos; holding [v] (truthy v)) := by intro _; rfl) : DT X R e (dTru t) := by
  obtain ⟨h1, p1, k1⟩ := h.ex
  refine ⟨_, pt_truth p1 he, fun Z σ H M ρ Φ Q s en l t kk => k1 Z σ H M ρ _ _ s en l t fun p v Z1 M1 H1 s1 r1 a1 q1 => ?_⟩
  obtain ⟨b, h2, q⟩ := tru_of s1 a1 q1
  exact ⟨b, h2, kk b Z1 M1 H1 s1 r1 q⟩
def dAnd (t u : TDt) : TDt := fun ρ M Φ => t ρ M fun c M1 => if c = true then u ρ M1 Φ else Φ false M1
def dOr (t u : TDt) : TDt := fun ρ M Φ => t ρ M fun c M1 => if c = true then Φ true M1 else u ρ M1 Φ
def dNot (t : TDt) : TDt := fun ρ M Φ => t ρ M fun c M1 => Φ (!c) M1
structure DW (X : Cx) (R : Rz) (e : Expr) (t : TDt) : Prop where
  ex : ∃ ht : TT, PW X e ht ∧ ∀ Z σ H M ρ Φ Q, St X.K Z M H → EnvOk X.K Z ρ σ → Lk X.K R Z M H → t ρ M Φ → (∀ b Z1 M1 H1, St X.K Z1 M1 H1 → Tr Z M H Z1 M1 H1 → Φ b M1 → Q b H1) → ht σ H Q
theorem DW.dt {e : Expr} {t : TDt} (h : DW X R e t) : DT X R e t := ⟨let ⟨ht, p, k⟩ := h.ex; ⟨ht, p.pt, k⟩⟩
theorem dw_and1 {a : Expr} {t : TDt} {pos} (h : DT X R a t) : DW X R (.BoolOp .And [a] pos) t := ⟨let ⟨ht, p, k⟩ := h.ex; ⟨ht, pw_and1 p, k⟩⟩
theorem dw_or1 {a : Expr} {t : TDt} {pos} (h : DT X R a t) : DW X R (.BoolOp .Or [a] pos) t := ⟨let ⟨ht, p, k⟩ := h.ex; ⟨ht, pw_or1 p, k⟩⟩
theorem dw_and {a b : Expr} {rest : List Expr} {t u : TDt} {pos} (h : DT X R a t) (h2 : DW X R (.BoolOp .And (b :: rest) pos) u) : DW X R (.BoolOp .And (a :: b :: rest) pos) (dAnd t u) := by
  obtain ⟨g1, p1, k1⟩ := h.ex
  obtain ⟨g2, p2, k2⟩ := h2.ex
  refine ⟨_, pw_and p1 p2, fun Z σ H M ρ Φ Q s en l t kk => k1 Z σ H M ρ _ _ s en l t fun c Z1 M1 H1 s1 r1 q1 => ?_⟩
  cases c with
  | true => exact k2 Z1 σ H1 M1 ρ _ _ s1 (en.mono r1.z) (l.next r1) q1 fun b Z2 M2 H2 s2 r2 q2 => kk b Z2 M2 H2 s2 (r1.trans r2) q2
  | false => exact kk false Z1 M1 H1 s1 r1 q1
theorem dw_or {a b : Expr} {rest : List Expr} {t u : TDt} {pos} (h : DT X R a t) (h2 : DW X R (.BoolOp .Or (b :: rest) pos) u) : DW X R (.BoolOp .Or (a :: b :: rest) pos) (dOr t u) := by
  obtain ⟨g1, p1, k1⟩ := h.ex
  obtain ⟨g2, p2, k2⟩ := h2.ex
  refine ⟨_, pw_or p1 p2, fun Z σ H M ρ Φ Q s en l t kk => k1 Z σ H M ρ _ _ s en l t fun c Z1 M1 H1 s1 r1 q1 => ?_⟩
  cases c with
  | false => exact k2 Z1 σ H1 M1 ρ _ _ s1 (en.mono r1.z) (l.next r1) q1 fun b Z2 M2 H2 s2 r2 q2 => kk b Z2 M2 H2 s2 (r1.trans r2) q2
  | true => exact kk true Z1 M1 H1 s1 r1 q1
theorem dt_not {a : Expr} {t : TDt} {pos} (h : DT X R a t) : DT X R (.UnaryOp .Not a pos) (dNot t) := by
  obtain ⟨g1, p1, k1⟩ := h.ex
  exact ⟨_, pt_not p1, fun Z σ H M ρ Φ Q s en l t kk => k1 Z σ H M ρ _ _ s en l t fun c Z1 M1 H1 s1 r1 q1 => kk (!c) Z1 M1 H1 s1 r1 q1⟩
def dAndV (ta tb : TD) : TD := fun ρ M Φ => ta ρ M fun p M1 => asB p fun c => if c = true then tb ρ M1 Φ else Φ (.bl false) M1
def dOrV (ta tb : TD) : TD := fun ρ M Φ => ta ρ M fun p M1 => asB p fun c => if c = true then Φ (.bl true) M1 else tb ρ M1 Φ
def dNotV (ta : TD) : TD := fun ρ M Φ => ta ρ M fun p M1 => asB p fun c => Φ (.bl (!c)) M1
theorem de_one {a : Expr} {op} {t : TD} {pos} (h : DE X R a t) : DE X R (.BoolOp op [a] pos) t := ⟨let ⟨ht, p, k⟩ := h.ex; ⟨ht, pe_one p, k⟩⟩
theorem de_and {a b : Expr} {rest : List Expr} {ta tb : TD} {pos} (h : DE X R a ta) (h2 : DE X R (.BoolOp .And (b :: rest) pos) tb) : DE X R (.BoolOp .And (a :: b :: rest) pos) (dAndV ta tb) := by
  obtain ⟨g1, p1, k1⟩ := h.ex
  obtain ⟨g2, p2, k2⟩ := h2.ex
  refine ⟨_, pe_and p1 p2, fun Z σ H M ρ Φ Q s en l t kk => k1 Z σ H M ρ _ _ s en l t fun p v Z1 M1 H1 s1 r1 a1 q1 => ?_⟩
  obtain ⟨c, rfl, q⟩ := asB_of q1
  refine ⟨c, a1, ?_⟩
  cases c with
  | true => exact k2 Z1 σ H1 M1 ρ _ _ s1 (en.mono r1.z) (l.next r1) q fun p v Z2 M2 H2 s2 r2 a2 q2 => kk p v Z2 M2 H2 s2 (r1.trans r2) a2 q2
  | false => exact kk (.bl false) _ Z1 M1 H1 s1 r1 rfl q
theorem de_or {a b : Expr} {rest : List Expr} {ta tb : TD} {pos} (h : DE X R a ta) (h2 : DE X R (.BoolOp .Or (b :: rest) pos) tb) : DE X R (.BoolOp .Or (a :: b :: rest) pos) (dOrV ta tb) := by
  obtain ⟨g1, p1, k1⟩ := h.ex
  obtain ⟨g2, p2, k2⟩ := h2.ex
  refine ⟨_, pe_or p1 p2, fun Z σ H M ρ Φ Q s en l t kk => k1 Z σ H M ρ _ _ s en l t fun p v Z1 M1 H1 s1 r1 a1 q1 => ?_⟩
  obtain ⟨c, rfl, q⟩ := asB_of q1
  refine ⟨c, a1, ?_⟩
  cases c with
  | false => exact k2 Z1 σ H1 M1 ρ _ _ s1 (en.mono r1.z) (l.next r1) q fun p v Z2 M2 H2 s2 r2 a2 q2 => kk p v Z2 M2 H2 s2 (r1.trans r2) a2 q2
  | true => exact kk (.bl true) _ Z1 M1 H1 s1 r1 rfl q
theorem de_not {a : Expr} {ta : TD} {pos} (h : DE X R a ta) : DE X R (.UnaryOp .Not a pos) (dNotV ta) := by
  obtain ⟨g1, p1, k1⟩ := h.ex
  refine ⟨_, pe_not p1, fun Z σ H M ρ Φ Q s en l t kk => k1 Z σ H M ρ _ _ s en l t fun p v Z1 M1 H1 s1 r1 a1 q1 => ?_⟩
  obtain ⟨c, rfl, q⟩ := asB_of q1
  exact ⟨c, a1, kk (.bl (!c)) _ Z1 M1 H1 s1 r1 rfl q⟩
def dNeg (ta : TD) : TD := fun ρ M Φ => ta ρ M fun p M1 => match p with
  | .int i => Φ (.int (-i)) M1
  | _ => False
theorem de_neg {a : Expr} {ta : TD} {pos} (h : DE X R a ta) : DE X R (.UnaryOp .USub a pos) (dNeg ta) := by
  obtain ⟨g1, p1, k1⟩ := h.ex
  refine ⟨_, pe_un un_neg p1, fun Z σ H M ρ Φ Q s en l t kk => k1 Z σ H M ρ _ _ s en l t fun p v Z1 M1 H1 s1 r1 a1 q1 => ?_⟩
  cases p <;> first | exact q1.elim | skip
  rename_i i
  exact ⟨i, a1, kk (.int (-i)) _ Z1 M1 H1 s1 r1 rfl q1⟩
def dIf (t : TDt) (ta tb : TD) : TD := fun ρ M Φ => t ρ M fun c M1 => if c = true then ta ρ M1 Φ else tb ρ M1 Φ
theorem de_if {c a b : Expr} {t : TDt} {ta tb : TD} {pos} (hc : DT X R c t) (ha : DE X R a ta) (hb : DE X R b tb) : DE X R (.IfExp c a b pos) (dIf t ta tb) := by
  obtain ⟨g, p, k⟩ := hc.ex
  obtain ⟨g1, p1, k1⟩ := ha.ex
  obtain ⟨g2, p2, k2⟩ := hb.ex
  refine ⟨_, pe_ifExp p p1 p2, fun Z σ H M ρ Φ Q s en l t kk => k Z σ H M ρ _ _ s en l t fun c Z1 M1 H1 s1 r1 q1 => ?_⟩
  cases c with
  | true => exact k1 Z1 σ H1 M1 ρ _ _ s1 (en.mono r1.z) (l.next r1) q1 fun p v Z2 M2 H2 s2 r2 a2 q2 => kk p v Z2 M2 H2 s2 (r1.trans r2) a2 q2
  | false => exact k2 Z1 σ H1 M1 ρ _ _ s1 (en.mono r1.z) (l.next r1) q1 fun p v Z2 M2 H2 s2 r2 a2 q2 => kk p v Z2 M2 H2 s2 (r1.trans r2) a2 q2

/-! ### subscripts -/
/-- [a] of a sequence -/
def idxW : W2 := fun p q M Φ => match p, q with
  | .str z, .int i => ∃ c, z.length ≤ sizeLine ∧ atI z.cps.toList i = some c ∧ Φ (.str ⟨#[c]⟩) M
  | p, .int i => sqW p M fun xs => ∃ v, atI xs i = some v ∧ Φ v M
  | _, _ => False
theorem atI_is {K : PySem.W.Frag} {Z : Hp} {ps : List P} {vs : List V} {i : Int} {p : P} (h : IsL K Z ps vs) (e : atI ps i = some p) : ∃ v, atI vs i = some v ∧ Is K Z p v := by
  unfold atI at e ⊢
  rw [h.length] at e
  cases q : ixN vs.length i with
  | none => rw [q] at e; cases e
  | some j =>
    rw [q] at e
    exact h.get (show ps[j]? = some p from e)
theorem de_idx {a b : Expr} {ta tb : TD} {pos} (ha : DE X R a ta) (hb : DE X R b tb) (hs : PlainIx b := by exact fun _ _ => rfl) : DE X R (.Subscript a b pos) (dBin idxW ta tb) := by
  obtain ⟨h1, p1, k1⟩ := ha.ex
  obtain ⟨h2, p2, k2⟩ := hb.ex
  refine de_of (pe_ix ix_seq p1 p2 hs) fun Z σ H M ρ Φ Q s en l t kk => two_of k1 k2 (r := rIx X.K) (w := idxW) (fun Z M H p q x y Φ Q s a b t k => ?_) s en l t kk
  cases q with
  | int i =>
    have ey : y = .int i := b
    cases p with
    | str z =>
      have ex : x = .str z := a
      obtain ⟨c, h1, h2, q⟩ := t
      exact .inr (.inr ⟨z, i, c, ex, ey, h1, h2, k _ _ Z M H s .refl (show Is X.K Z (.str _) (.str _) from rfl) q⟩)
    | _ =>
      obtain ⟨xs, c, vs, ⟨p', h1, q⟩, ex, hq, l⟩ := sq_of (k := fun xs => ∃ v, atI xs i = some v ∧ Φ v M) s a t
      obtain ⟨u, h2, a2⟩ := atI_is l h1
      rcases hq with hq | hq
      · exact .inl ⟨c, vs, i, u, ex, ey, hq, h2, k _ _ Z M H s .refl a2 q⟩
      · exact .inr (.inl ⟨c, vs, i, u, ex, ey, hq, h2, k _ _ Z M H s .refl a2 q⟩)
  | _ => cases p <;> exact t.elim
/-- [lo:hi] -/
def cutL {α : Type} (xs : List α) (lo hi : Option Int) : List α := (xs.drop (HT.sIx xs.length 0 lo)).take (HT.sIx xs.length xs.length hi - HT.sIx xs.length 0 lo)
theorem IsL.cut {K : PySem.W.Frag} {Z : Hp} {ps : List P} {vs : List V} (h : IsL K Z ps vs) (lo hi : Option Int) : IsL K Z (cutL ps lo hi) (cutV vs lo hi) := by
  unfold cutL cutV
  rw [h.length]
  exact (h.drop _).take _
abbrev TDo := Rho → Mm → (Option Int → Mm → Prop) → Prop
structure DO (X : Cx) (R : Rz) (e : Option Expr) (t : TDo) : Prop where
  ex : ∃ ht : TO, PO X e ht ∧ ∀ Z σ H M ρ Φ Q, St X.K Z M H → EnvOk X.K Z ρ σ → Lk X.K R Z M H → t ρ M Φ → (∀ b Z1 M1 H1, St X.K Z1 M1 H1 → Tr Z M H Z1 M1 H1 → Φ b M1 → Q b H1) → ht σ H Q
def dNo : TDo := fun _ M Φ => Φ none M
def dSo (t : TD) : TDo := fun ρ M Φ => t ρ M fun p M1 => match p with
  | .int i => Φ (some i) M1
  | _ => False
theorem do_none : DO X R none dNo := ⟨_, po_none, fun Z σ H M ρ Φ Q s en l t kk => kk none Z M H s .refl t⟩
theorem do_some {e : Expr} {t : TD} (h : DE X R e t) : DO X R (some e) (dSo t) := by
  obtain ⟨g1, p1, k1⟩ := h.ex
  refine ⟨_, po_some p1, fun Z σ H M ρ Φ Q s en l t kk => k1 Z σ H M ρ _ _ s en l t fun p v Z1 M1 H1 s1 r1 a1 q1 => ?_⟩
  cases p <;> first | exact q1.elim | skip
  rename_i i
  exact ⟨i, a1, kk (some i) Z1 M1 H1 s1 r1 q1⟩
/-- a list's slice is a new list (res true: a mutable one) -/
def cutW (p : P) (lo hi : Option Int) (M : Mm) (Φ : P → Mm → Prop) : Prop := match p with
  | .tup xs => Φ (.tup (cutL xs lo hi)) M
  | p => lsW p M fun xs => Φ (.lst (cutL xs lo hi)) M
def dCut (t : TD) (tl th : TDo) : TD := fun ρ M Φ => t ρ M fun p M1 => tl ρ M1 fun lo M2 => th ρ M2 fun hi M3 => cutW p lo hi M3 Φ
theorem cut_whole {xs : List P} {lo hi : Option Int} (h1 : HT.sIx xs.length 0 lo = 0) (h2 : HT.sIx xs.length xs.length hi = xs.length) : cutL xs lo hi = xs := by
  unfold cutL
  rw [h1, h2]
  simp
theorem de_cut {e : Expr} {lo hi : Option Expr} {te : TD} {tl th : TDo} {p2 pos} (he : DE X R e te) (hl : DO X R lo tl) (hh : DO X R hi th) : DE X R (.Subscript e (.Slice lo hi none p2) pos) (dCut te tl th) := by
  obtain ⟨g1, p1, k1⟩ := he.ex
  obtain ⟨g2, p2, k2⟩ := hl.ex
  obtain ⟨g3, p3, k3⟩ := hh.ex
  refine de_of (pe_slice (sl_list.or sl_tupA) p1 p2 p3) fun Z σ H M ρ Φ Q s en l t kk => k1 Z σ H M ρ _ _ s en l t fun p v Z1 M1 H1 s1 r1 a1 q1 => ?_
  refine k2 Z1 σ H1 M1 ρ _ _ s1 (en.mono r1.z) (l.next r1) q1 fun o1 Z2 M2 H2 s2 r2 q2 => ?_
  refine k3 Z2 σ H2 M2 ρ _ _ s2 (en.mono (r1.trans r2).z) (l.next (r1.trans r2)) q2 fun o2 Z3 M3 H3 s3 r3 q3 => ?_
  have r := (r1.trans r2).trans r3
  have a3 := a1.mono (r2.trans r3).z
  have lst : (lsW p M3 fun xs => Φ (.lst (cutL xs o1 o2)) M3) → (rSlL X.K v o1 o2 H3 Q) := fun q3 => by
    obtain ⟨xs, c, vs, q, ex, hq, l1⟩ := ls_of s3 a3 q3
    refine ⟨c, vs, ex, .inl hq, fun p hp => ?_⟩
    obtain ⟨s4, r4⟩ := s3.frz (o := .lst (cutV vs o1 o2)) hp
    exact kk (.lst (cutL xs o1 o2)) _ _ M3 _ s4 (r.trans r4) ⟨p, _, rfl, .inl upd_same, (l1.cut o1 o2).mono r4.z⟩ q
  cases p with
  | tup xs =>
    refine .inr ?_
    obtain ⟨c, vs, ex, hq, l1⟩ := a3
    have el := l1.length
    refine ⟨c, vs, ex, seqT_same s3.z hq, fun hw => ?_, fun _ p hp => ?_⟩
    · have e : cutL xs o1 o2 = xs := cut_whole (by rw [el]; exact hw.1) (by rw [el]; exact hw.2)
      refine kk (.tup xs) _ Z3 M3 H3 s3 r ⟨c, vs, rfl, hq, l1⟩ ?_
      have q : Φ (.tup (cutL xs o1 o2)) M3 := q3
      rw [e] at q
      exact q
    · obtain ⟨s4, r4⟩ := s3.frz (o := .tup (cutV vs o1 o2)) hp
      exact kk (.tup (cutL xs o1 o2)) _ _ M3 _ s4 (r.trans r4) ⟨p, _, rfl, .inl (.inl upd_same), (l1.cut o1 o2).mono r4.z⟩ q3
  | lst xs => exact .inl (lst q3)
  | ref c => exact .inl (lst q3)
  | _ => exact q3.elim

/-! ### built-in functions by values -/
abbrev WL := List P → Mm → (P → Mm → Prop) → Prop
def CallD (X : Cx) (f : Value) (w : WL) : Prop :=
  ∃ r, CallR X f r ∧ ∀ Z M H ps vs Φ Q, St X.K Z M H → IsL X.K Z ps vs → w ps M Φ → Kp X.K Z M H Φ Q → r vs H Q
theorem CallD.or {f : Value} {w1 w2 : WL} (h1 : CallD X f w1) (h2 : CallD X f w2) : CallD X f (fun ps M Φ => w1 ps M Φ ∨ w2 ps M Φ) := by
  obtain ⟨r1, o1, k1⟩ := h1
  obtain ⟨r2, o2, k2⟩ := h2
  refine ⟨_, o1.or o2, fun Z M H ps vs Φ Q s a t k => ?_⟩
  rcases t with t | t
  · exact .inl (k1 Z M H ps vs Φ Q s a t k)
  · exact .inr (k2 Z M H ps vs Φ Q s a t k)
theorem CallD.imp {f : Value} {w1 w2 : WL} (h1 : CallD X f w1) (h : ∀ ps M Φ, w2 ps M Φ → w1 ps M Φ) : CallD X f w2 := by
  obtain ⟨r1, o1, k1⟩ := h1
  exact ⟨r1, o1, fun Z M H ps vs Φ Q s a t k => k1 Z M H ps vs Φ Q s a (h _ _ _ t) k⟩
def dCB (w : WL) (t : TDa) : TD := fun ρ M Φ => t ρ M fun ps M1 => w ps M1 Φ
theorem de_callB {x : Str} {id : String} {w : WL} {e : Expr} {es : List Expr} {t : TDa} {p pos} (hc : CallD X (.builtin id) w) (hg : Gl X x) (hm : X.mg x = none) (hv : bootBuiltins x = some (.builtin id)) (ha : DA X R (e :: es) t)
    (hn : x ≠ "__name__" := by decide) (hdb : (x == ("__debug__" : Str)) = false := by decide) (he : starEach (e :: es) X.env = (false, eval e X.env) :: starEach es X.env := by rfl) (hpl : (backTo pos (starEach es X.env)).any (·.1) = false := by rfl) :
    DE X R (.Call (.Name x p) (e :: es) [] pos) (dCB w t) := by
  obtain ⟨r, o, k⟩ := hc
  obtain ⟨g1, p1, k1⟩ := ha.ex
  exact de_of (pe_callB o hg hm hv p1 hn hdb he hpl) fun Z σ H M ρ Φ Q s en l t kk => k1 Z σ H M ρ _ _ s en l t fun ps vs Z1 M1 H1 s1 r1 a1 q1 =>
    k Z1 M1 H1 ps vs _ _ s1 a1 q1 fun p v Z2 M2 H2 s2 r2 a2 q2 => kk p v Z2 M2 H2 s2 (r1.trans r2) a2 q2
theorem de_callT {x : Str} {T : String} {w : WL} {e : Expr} {es : List Expr} {t : TDa} {p pos} (hc : CallD X (.type T) w) (hg : Gl X x) (hm : X.mg x = none) (hv : bootBuiltins x = some (.type T)) (ha : DA X R (e :: es) t)
    (hn : x ≠ "__name__" := by decide) (hdb : (x == ("__debug__" : Str)) = false := by decide) (he : starEach (e :: es) X.env = (false, eval e X.env) :: starEach es X.env := by rfl) (hpl : (backTo pos (starEach es X.env)).any (·.1) = false := by rfl) :
    DE X R (.Call (.Name x p) (e :: es) [] pos) (dCB w t) := by
  obtain ⟨r, o, k⟩ := hc
  obtain ⟨g1, p1, k1⟩ := ha.ex
  exact de_of (pe_callTy o hg hm hv p1 hn hdb he hpl) fun Z σ H M ρ Φ Q s en l t kk => k1 Z σ H M ρ _ _ s en l t fun ps vs Z1 M1 H1 s1 r1 a1 q1 =>
    k Z1 M1 H1 ps vs _ _ s1 a1 q1 fun p v Z2 M2 H2 s2 r2 a2 q2 => kk p v Z2 M2 H2 s2 (r1.trans r2) a2 q2
/-- len -/
def lenW : WL := fun ps M Φ => match ps with
  | [.str z] => z.length ≤ sizeLine ∧ Φ (.int z.length) M
  | [p] => sqW p M fun xs => Φ (.int xs.length) M
  | _ => False
theorem isL_one {K : PySem.W.Frag} {Z : Hp} {p : P} {vs : List V} (h : IsL K Z [p] vs) : ∃ v, vs = [v] ∧ Is K Z p v := by
  obtain ⟨v, r, e, a, l⟩ := h
  have e2 : r = [] := l
  rw [e2] at e
  exact ⟨v, e, a⟩
theorem isL_two {K : PySem.W.Frag} {Z : Hp} {p q : P} {vs : List V} (h : IsL K Z [p, q] vs) : ∃ v u, vs = [v, u] ∧ Is K Z p v ∧ Is K Z q u := by
  obtain ⟨v, r, e, a, l⟩ := h
  obtain ⟨u, e2, b⟩ := isL_one l
  rw [e2] at e
  exact ⟨v, u, e, a, b⟩
theorem cd_len : CallD X (.builtin "len") lenW := by
  have h1 : CallD X (.builtin "len") (fun ps M Φ => match ps with | [p] => sqW p M fun xs => Φ (.int xs.length) M | _ => False) := by
    refine ⟨_, call_len_seq, fun Z M H ps vs Φ Q s a t k => ?_⟩
    match ps, t with
    | [p], t =>
      obtain ⟨v, e, b⟩ := isL_one a
      obtain ⟨xs, c, ws, q, ex, hq, l⟩ := sq_of s b t
      refine ⟨c, ws, by rw [e, ex], hq, ?_⟩
      rw [← l.length]
      exact k _ _ Z M H s .refl (show Is X.K Z (.int _) (.int _) from rfl) q
  have h2 : CallD X (.builtin "len") (fun ps M Φ => match ps with | [.str z] => z.length ≤ sizeLine ∧ Φ (.int z.length) M | _ => False) := by
    refine ⟨_, call_len_str, fun Z M H ps vs Φ Q s a t k => ?_⟩
    match ps, t with
    | [.str z], t =>
      obtain ⟨v, e, b⟩ := isL_one a
      have b : v = .str z := b
      exact ⟨z, by rw [e, b], t.1, k _ _ Z M H s .refl (show Is X.K Z (.int _) (.int _) from rfl) t.2⟩
  refine (h1.or h2).imp fun ps M Φ h => ?_
  cases ps with
  | nil => exact h.elim
  | cons p r =>
    cases r with
    | nil => cases p <;> first | exact .inr h | exact .inl h
    | cons q r => first | exact h.elim | (cases p <;> exact h.elim)
/-- abs, int, str -/
def absW : WL := fun ps M Φ => match ps with
  | [.int i] => Φ (.int (if i < 0 then -i else i)) M
  | _ => False
theorem cd_abs : CallD X (.builtin "abs") absW := by
  refine ⟨_, call_abs, fun Z M H ps vs Φ Q s a t k => ?_⟩
  match ps, t with
  | [.int i], t =>
    obtain ⟨v, e, b⟩ := isL_one a
    have b : v = .int i := b
    exact ⟨i, by rw [e, b], k _ _ Z M H s .refl (show Is X.K Z (.int _) (.int _) from rfl) t⟩
def intCW : WL := fun ps M Φ => match ps with
  | [.int i] => Φ (.int i) M
  | _ => False
theorem cd_int : CallD X (.type "int") intCW := by
  refine ⟨_, call_int1, fun Z M H ps vs Φ Q s a t k => ?_⟩
  match ps, t with
  | [.int i], t =>
    obtain ⟨v, e, b⟩ := isL_one a
    have b : v = .int i := b
    exact .inl ⟨i, by rw [e, b], k _ _ Z M H s .refl (show Is X.K Z (.int _) (.int _) from rfl) t⟩
def strCW : WL := fun ps M Φ => match ps with
  | [.int i] => i.natAbs.log2 < 1920 ∧ Φ (.str (toString i)) M
  | _ => False
theorem cd_str : CallD X (.type "str") strCW := by
  refine ⟨_, call_str_int, fun Z M H ps vs Φ Q s a t k => ?_⟩
  match ps, t with
  | [.int i], t =>
    obtain ⟨v, e, b⟩ := isL_one a
    have b : v = .int i := b
    exact ⟨i, by rw [e, b], t.1, k _ _ Z M H s .refl (show Is X.K Z (.str _) (.str _) from rfl) t.2⟩
/-- sum, max, min, all, any: lists of ints, of bools, told -/
def sumW : WL := fun ps M Φ => match ps with
  | [p] => lsW p M fun xs => ∃ ns : List Int, xs = ns.map P.int ∧ Φ (.int ns.sum) M
  | _ => False
theorem cd_sum (hc : X.calm = true) : CallD X (.builtin "sum") sumW := by
  refine ⟨_, cr_sum hc, fun Z M H ps vs Φ Q s a t k => ?_⟩
  match ps, t with
  | [p], t =>
    obtain ⟨v, e, b⟩ := isL_one a
    obtain ⟨xs, c, ws, ⟨ns, e2, q⟩, ex, hq, l⟩ := ls_of s b t
    rw [e2] at l
    refine ⟨c, ns, by rw [e, ex], .inl (by rw [← l.ints]; exact hq), k _ _ Z M H s .refl (show Is X.K Z (.int _) (.int _) from rfl) q⟩
def maxW : WL := fun ps M Φ => match ps with
  | [p] => lsW p M fun xs => ∃ ns : List Int, xs = ns.map P.int ∧ 0 < ns.length ∧ ∀ m, m ∈ ns → (∀ y, y ∈ ns → y ≤ m) → Φ (.int m) M
  | _ => False
theorem cd_max (hc : X.calm = true) : CallD X (.builtin "max") maxW := by
  refine ⟨_, cr_max hc, fun Z M H ps vs Φ Q s a t k => ?_⟩
  match ps, t with
  | [p], t =>
    obtain ⟨v, e, b⟩ := isL_one a
    obtain ⟨xs, c, ws, ⟨ns, e2, h0, q⟩, ex, hq, l⟩ := ls_of s b t
    rw [e2] at l
    exact ⟨c, ns, by rw [e, ex], .inl (by rw [← l.ints]; exact hq), h0, fun m h1 h2 => k _ _ Z M H s .refl (show Is X.K Z (.int _) (.int _) from rfl) (q m h1 h2)⟩
def allW : WL := fun ps M Φ => match ps with
  | [p] => lsW p M fun xs => ∃ ns : List Bool, xs = ns.map P.bl ∧ Φ (.bl (ns.all id)) M
  | _ => False
theorem cd_all (hc : X.calm = true) : CallD X (.builtin "all") allW := by
  refine ⟨_, cr_all hc, fun Z M H ps vs Φ Q s a t k => ?_⟩
  match ps, t with
  | [p], t =>
    obtain ⟨v, e, b⟩ := isL_one a
    obtain ⟨xs, c, ws, ⟨ns, e2, q⟩, ex, hq, l⟩ := ls_of s b t
    rw [e2] at l
    exact ⟨c, ns, by rw [e, ex], .inl (by rw [← l.bls]; exact hq), k _ _ Z M H s .refl (show Is X.K Z (.bl _) (.bl _) from rfl) q⟩
def anyW : WL := fun ps M Φ => match ps with
  | [p] => lsW p M fun xs => ∃ ns : List Bool, xs = ns.map P.bl ∧ Φ (.bl (ns.any id)) M
  | _ => False
theorem cd_any (hc : X.calm = true) : CallD X (.builtin "any") anyW := by
  refine ⟨_, cr_any hc, fun Z M H ps vs Φ Q s a t k => ?_⟩
  match ps, t with
  | [p], t =>
    obtain ⟨v, e, b⟩ := isL_one a
    obtain ⟨xs, c, ws, ⟨ns, e2, q⟩, ex, hq, l⟩ := ls_of s b t
    rw [e2] at l
    exact ⟨c, ns, by rw [e, ex], .inl (by rw [← l.bls]; exact hq), k _ _ Z M H s .refl (show Is X.K Z (.bl _) (.bl _) from rfl) q⟩
/-- tuple(xs), list(xs) -/
def tupCW : WL := fun ps M Φ => match ps with
  | [p] => sqW p M fun xs => Φ (.tup xs) M
  | _ => False
theorem cd_tuple : CallD X (.type "tuple") tupCW := by
  refine ⟨_, call_tuple_of, fun Z M H ps vs Φ Q s a t k => ?_⟩
  match ps, t with
  | [p], t =>
    obtain ⟨v, e, b⟩ := isL_one a
    cases p with
    | tup xs =>
      obtain ⟨c, ws, ex, hq, l⟩ := b
      exact ⟨c, ws, by rw [e, ex], .inr ⟨seqT_same s.z hq, k (.tup xs) _ Z M H s .refl ⟨c, ws, rfl, hq, l⟩ t⟩⟩
    | _ =>
      obtain ⟨xs, c, ws, q, ex, hq, l⟩ := ls_of (k := fun xs => Φ (.tup xs) M) s b (by first | exact t | exact t.elim)
      refine ⟨c, ws, by rw [e, ex], .inl ⟨.inl hq, fun p hp => ?_⟩⟩
      obtain ⟨s2, r2⟩ := s.frz (o := .tup ws) hp
      exact k (.tup xs) _ _ M _ s2 r2 ⟨p, ws, rfl, .inl (.inl upd_same), l.mono r2.z⟩ q
def lstCW : WL := fun ps M Φ => match ps with
  | [p] => sqW p M fun xs => Φ (.lst xs) M
  | _ => False
def lstCMW : WL := fun ps M Φ => match ps with
  | [p] => sqW p M fun xs => ∀ a, M a = none → Φ (.ref a) (updM M a (.lst xs))
  | _ => False
theorem cd_list : CallD X (.type "list") lstCW := by
  refine ⟨_, call_list_of, fun Z M H ps vs Φ Q s a t k => ?_⟩
  match ps, t with
  | [p], t =>
    obtain ⟨v, e, b⟩ := isL_one a
    obtain ⟨xs, c, ws, q, ex, hq, l⟩ := sq_of s b t
    refine ⟨c, ws, by rw [e, ex], hq, fun p hp => ?_⟩
    obtain ⟨s2, r2⟩ := s.frz (o := .lst ws) hp
    exact k (.lst xs) _ _ M _ s2 r2 ⟨p, ws, rfl, .inl upd_same, l.mono r2.z⟩ q
theorem cd_listM : CallD X (.type "list") lstCMW := by
  refine ⟨_, call_list_of, fun Z M H ps vs Φ Q s a t k => ?_⟩
  match ps, t with
  | [p], t =>
    obtain ⟨v, e, b⟩ := isL_one a
    obtain ⟨xs, c, ws, q, ex, hq, l⟩ := sq_of s b t
    refine ⟨c, ws, by rw [e, ex], hq, fun p hp => ?_⟩
    obtain ⟨s2, r2⟩ := s.new (u := .lst xs) (o := .lst ws) hp ⟨ws, upd_same, l⟩
    exact k (.ref p) _ Z _ _ s2 r2 rfl (q p (s.mn hp))
end
end NC

end
section
set_option Elab.async false
set_option linter.all false
set_option maxRecDepth 100000
set_option maxHeartbeats 2000000
namespace NC
open PySem PySem.Spec PyProof.Rows L2 RZ
/-! ### statements -/
structure DEnds where
  nx : Rho → Mm → Prop
  rt : P → Mm → Prop
  bk : Rho → Mm → Prop := fun _ _ => False
  ct : Rho → Mm → Prop := fun _ _ => False
abbrev TSd := DEnds → Rho → Mm → Prop
/-- behind a statement, at the slots -/
def Kn (K : PySem.W.Frag) (Z : Hp) (M : Mm) (H : Hp) (Φ : Rho → Mm → Prop) (Q : L2.St → Hp → Prop) : Prop := ∀ ρ1 σ1 Z1 M1 H1, St K Z1 M1 H1 → Tr Z M H Z1 M1 H1 → EnvOk K Z1 ρ1 σ1 → Φ ρ1 M1 → Q σ1 H1
structure EndsOk (K : PySem.W.Frag) (Z : Hp) (M : Mm) (H : Hp) (D : DEnds) (D' : Ends) : Prop where
  nx : Kn K Z M H D.nx D'.nx
  rt : Kp K Z M H D.rt D'.rt
  bk : Kn K Z M H D.bk D'.bk
  ct : Kn K Z M H D.ct D'.ct
theorem Kn.next {K : PySem.W.Frag} {Z Z1 : Hp} {M M1 : Mm} {H H1 : Hp} {Φ : Rho → Mm → Prop} {Q : L2.St → Hp → Prop} (k : Kn K Z M H Φ Q) (t : Tr Z M H Z1 M1 H1) : Kn K Z1 M1 H1 Φ Q :=
  fun ρ2 σ2 Z2 M2 H2 s t2 e q => k ρ2 σ2 Z2 M2 H2 s (t.trans t2) e q
theorem Kp.next {K : PySem.W.Frag} {Z Z1 : Hp} {M M1 : Mm} {H H1 : Hp} {Φ : P → Mm → Prop} {Q : VK} (k : Kp K Z M H Φ Q) (t : Tr Z M H Z1 M1 H1) : Kp K Z1 M1 H1 Φ Q :=
  fun p v Z2 M2 H2 s t2 e q => k p v Z2 M2 H2 s (t.trans t2) e q
theorem EndsOk.next {K : PySem.W.Frag} {Z Z1 : Hp} {M M1 : Mm} {H H1 : Hp} {D : DEnds} {D' : Ends} (k : EndsOk K Z M H D D') (t : Tr Z M H Z1 M1 H1) : EndsOk K Z1 M1 H1 D D' :=
  ⟨k.nx.next t, k.rt.next t, k.bk.next t, k.ct.next t⟩
structure DS (X : Cx) (R : Rz) (st : Stmt) (t : TSd) : Prop where
  ex : ∃ ht : TS, PS X st ht ∧ ∀ Z σ H M ρ D D', St X.K Z M H → EnvOk X.K Z ρ σ → Lk X.K R Z M H → EndsOk X.K Z M H D D' → t D ρ M → ht D' σ H
structure DSs (X : Cx) (R : Rz) (st : List Stmt) (t : TSd) : Prop where
  ex : ∃ ht : TS, PSs X st ht ∧ ∀ Z σ H M ρ D D', St X.K Z M H → EnvOk X.K Z ρ σ → Lk X.K R Z M H → EndsOk X.K Z M H D D' → t D ρ M → ht D' σ H
abbrev TGd := P → Rho → Mm → (Rho → Mm → Prop) → Prop
structure DG (X : Cx) (tg : Expr) (g : TGd) : Prop where
  ex : ∃ hg : TG, PG X tg hg ∧ ∀ Z σ H M ρ p v Φ Q, St X.K Z M H → EnvOk X.K Z ρ σ → Is X.K Z p v → g p ρ M Φ → Kn X.K Z M H Φ Q → hg v σ H Q
abbrev TGds := List P → Rho → Mm → (Rho → Mm → Prop) → Prop
structure DGs (X : Cx) (tgs : List Expr) (g : TGds) : Prop where
  ex : ∃ hg : TGs, PGs X tgs hg ∧ ∀ Z σ H M ρ ps vs Φ Q, St X.K Z M H → EnvOk X.K Z ρ σ → IsL X.K Z ps vs → g ps ρ M Φ → Kn X.K Z M H Φ Q → hg vs σ H Q
/-- a slot set -/
def put : Rho → Nat → P → Rho
  | [], _, _ => []
  | _ :: r, 0, p => some p :: r
  | o :: r, n + 1, p => o :: put r n p
theorem put_eq : ∀ (ρ : Rho) (i : Nat) (p : P), put ρ i p = ρ.set i (some p)
  | [], i, p => by simp [put]
  | _ :: r, 0, p => rfl
  | o :: r, n + 1, p => by
    show o :: put r n p = o :: r.set n (some p)
    rw [put_eq r n p]
section
variable {X : Cx} {R : Rz}
theorem EnvOk.put {K : PySem.W.Frag} {Z : Hp} {ρ : Rho} {σ : L2.St} {p : P} {v : V} (h : EnvOk K Z ρ σ) (a : Is K Z p v) (i : Nat) : EnvOk K Z (NC.put ρ i p) (σ.set i (some v)) := by
  rw [put_eq]
  exact h.set a i
def gdName (i : Nat) : TGd := fun p ρ M Φ => Φ (put ρ i p) M
theorem dg_name {i : Nat} {tg : Expr} (h : PG X tg (gName i)) : DG X tg (gdName i) :=
  ⟨_, h, fun Z σ H M ρ p v Φ Q s en a g k => k _ _ Z M H s .refl (en.put a i) g⟩
def gdNil : TGds := fun ps ρ M Φ => match ps with
  | [] => Φ ρ M
  | _ => False
def gdCons (t : TGd) (u : TGds) : TGds := fun ps ρ M Φ => match ps with
  | p :: r => t p ρ M fun ρ1 M1 => u r ρ1 M1 Φ
  | _ => False
theorem dgs_nil : DGs X [] gdNil := ⟨_, pgs_nil, fun Z σ H M ρ ps vs Φ Q s en a g k => by
  cases ps with
  | nil => exact ⟨a, k _ _ Z M H s .refl en g⟩
  | cons p r => exact g.elim⟩
theorem dgs_cons {e : Expr} {es : List Expr} {t : TGd} {u : TGds} (h1 : DG X e t) (h2 : DGs X es u) (hs : (assignEach (e :: es) X.env).map (·.2) = assign e X.env :: (assignEach es X.env).map (·.2) := by rfl) : DGs X (e :: es) (gdCons t u) := by
  obtain ⟨g1, p1, k1⟩ := h1.ex
  obtain ⟨g2, p2, k2⟩ := h2.ex
  refine ⟨_, pgs_cons p1 p2 hs, fun Z σ H M ρ ps vs Φ Q s en a g k => ?_⟩
  cases ps with
  | nil => exact g.elim
  | cons p r =>
    obtain ⟨v, w, rfl, a1, l⟩ := a
    refine ⟨v, w, rfl, k1 Z σ H M ρ p v _ _ s en a1 g fun ρ1 σ1 Z1 M1 H1 s1 r1 e1 q1 => ?_⟩
    exact k2 Z1 σ1 H1 M1 ρ1 r w _ _ s1 e1 (l.mono r1.z) q1 fun ρ2 σ2 Z2 M2 H2 s2 r2 e2 q2 => k ρ2 σ2 Z2 M2 H2 s2 (r1.trans r2) e2 q2
def gdTup (n : Nat) (t : TGds) : TGd := fun p ρ M Φ => match p with
  | .tup xs => xs.length = n ∧ t xs ρ M Φ
  | _ => False
theorem dg_tup {es : List Expr} {k : Nat} {t : TGds} {n : Nat} {pos} (hc : X.calm = true) (h : DGs X es t) (hn : (assignEach es X.env).length = n := by rfl) (hst : (assignEach es X.env).findIdx? (·.1) = none := by rfl) : DG X (.Tuple es k pos) (gdTup n t) := by
  obtain ⟨g1, p1, k1⟩ := h.ex
  refine ⟨_, pg_tup hc p1 hn hst, fun Z σ H M ρ p v Φ Q s en a g kk => ?_⟩
  cases p <;> first | exact g.elim | skip
  rename_i xs
  obtain ⟨b, vs, ex, hq, l⟩ := a
  exact ⟨b, vs, ex, seqT_same s.z hq, by rw [← l.length]; exact g.1, k1 Z σ H M ρ xs vs Φ Q s en l g.2 kk⟩
/-! small statements -/
def dNext : TSd := fun D ρ M => D.nx ρ M
def dSeq (t u : TSd) : TSd := fun D ρ M => t { D with nx := u D } ρ M
theorem dss_nil : DSs X R [] dNext := ⟨_, pss_nil, fun Z σ H M ρ D D' s en l k t => k.nx ρ σ Z M H s .refl en t⟩
theorem dss_cons {st : Stmt} {rest : List Stmt} {t u : TSd} (h1 : DS X R st t) (h2 : DSs X R rest u) : DSs X R (st :: rest) (dSeq t u) := by
  obtain ⟨g1, p1, k1⟩ := h1.ex
  obtain ⟨g2, p2, k2⟩ := h2.ex
  refine ⟨_, pss_cons p1 p2, fun Z σ H M ρ D D' s en l k t => k1 Z σ H M ρ { D with nx := u D } _ s en l ⟨fun ρ1 σ1 Z1 M1 H1 s1 r1 e1 q1 => ?_, k.rt, k.bk, k.ct⟩ t⟩
  exact k2 Z1 σ1 H1 M1 ρ1 D D' s1 e1 (l.next r1) (k.next r1) q1
theorem dss_one {st : Stmt} {t : TSd} (h1 : DS X R st t) : DSs X R [st] t := ⟨let ⟨g, p, k⟩ := h1.ex; ⟨g, pss_one p, k⟩⟩
def dBreak : TSd := fun D ρ M => D.bk ρ M
def dCont : TSd := fun D ρ M => D.ct ρ M
theorem ds_pass {pos} : DS X R (.Pass pos) dNext := ⟨_, ps_pass, fun Z σ H M ρ D D' s en l k t => k.nx ρ σ Z M H s .refl en t⟩
theorem ds_break {pos} : DS X R (.Break pos) dBreak := ⟨_, ps_break, fun Z σ H M ρ D D' s en l k t => k.bk ρ σ Z M H s .refl en t⟩
theorem ds_continue {pos} : DS X R (.Continue pos) dCont := ⟨_, ps_continue, fun Z σ H M ρ D D' s en l k t => k.ct ρ σ Z M H s .refl en t⟩
def dDrop (te : TD) : TSd := fun D ρ M => te ρ M fun _ M1 => D.nx ρ M1
theorem ds_expr {e : Expr} {te : TD} {pos : Pos} (h : DE X R e te) (hs : swapsWith e none pos.line X.env = pure false := by rfl) : DS X R (.Expr e pos) (dDrop te) := by
  obtain ⟨g1, p1, k1⟩ := h.ex
  exact ⟨_, ps_expr p1 hs, fun Z σ H M ρ D D' s en l k t => k1 Z σ H M ρ _ _ s en l t fun p v Z1 M1 H1 s1 r1 a1 q1 => k.nx ρ σ Z1 M1 H1 s1 r1 (en.mono r1.z) q1⟩
def dRet (te : TD) : TSd := fun D ρ M => te ρ M D.rt
theorem ds_ret {e : Expr} {te : TD} {pos : Pos} (h : DE X R e te) : DS X R (.Return (some e) pos) (dRet te) := by
  obtain ⟨g1, p1, k1⟩ := h.ex
  exact ⟨_, ps_ret p1, fun Z σ H M ρ D D' s en l k t => k1 Z σ H M ρ _ _ s en l t k.rt⟩
def dRetN : TSd := fun D _ M => D.rt .non M
theorem ds_retN {pos : Pos} : DS X R (.Return none pos) dRetN := ⟨_, ps_retN, fun Z σ H M ρ D D' s en l k t => k.rt .non .non Z M H s .refl rfl t⟩
def dIfS (c : TDt) (t u : TSd) : TSd := fun D ρ M => c ρ M fun b M1 => if b = true then t D ρ M1 else u D ρ M1
theorem ds_if {c : Expr} {a b : List Stmt} {tc : TDt} {t u : TSd} {pos : Pos} (hc : DT X R c tc) (ha : DSs X R a t) (hb : DSs X R b u) : DS X R (.If c a b pos) (dIfS tc t u) := by
  obtain ⟨g, p, k⟩ := hc.ex
  obtain ⟨g1, p1, k1⟩ := ha.ex
  obtain ⟨g2, p2, k2⟩ := hb.ex
  refine ⟨_, ps_if p p1 p2, fun Z σ H M ρ D D' s en l kk tt => k Z σ H M ρ _ _ s en l tt fun b Z1 M1 H1 s1 r1 q1 => ?_⟩
  cases b with
  | true => exact k1 Z1 σ H1 M1 ρ D D' s1 (en.mono r1.z) (l.next r1) (kk.next r1) q1
  | false => exact k2 Z1 σ H1 M1 ρ D D' s1 (en.mono r1.z) (l.next r1) (kk.next r1) q1
def dAsg (te : TD) (g : TGd) : TSd := fun D ρ M => te ρ M fun p M1 => g p ρ M1 D.nx
/-- name = e: h as ps_set gives it -/
theorem ds_set {i : Nat} {st : Stmt} {e : Expr} {te : TD} (hp : ∀ ht : TE, PE X e ht → PS X st (tAsg ht (gName i))) (h : DE X R e te) : DS X R st (dAsg te (gdName i)) := by
  obtain ⟨g1, p1, k1⟩ := h.ex
  exact ⟨_, hp _ p1, fun Z σ H M ρ D D' s en l k t => k1 Z σ H M ρ _ _ s en l t fun p v Z1 M1 H1 s1 r1 a1 q1 => k.nx _ _ Z1 M1 H1 s1 r1 ((en.mono r1.z).put a1 i) q1⟩
theorem ds_asg {tg e : Expr} {te : TD} {g : TGd} {pos : Pos} (he : DE X R e te) (hg : DG X tg g) (hs : swapsWithSole [tg] e pos.line X.env = pure false := by rfl) (hw : swappedStores [tg] e X.env = pure none := by rfl)
    (h1 : (assignEach [tg] X.env).map (·.2) = [assign tg X.env] := by rfl) : DS X R (.Assign [tg] e pos) (dAsg te g) := by
  obtain ⟨g1, p1, k1⟩ := he.ex
  obtain ⟨g2, p2, k2⟩ := hg.ex
  exact ⟨_, ps_asg p1 p2 hs hw h1, fun Z σ H M ρ D D' s en l k t => k1 Z σ H M ρ _ _ s en l t fun p v Z1 M1 H1 s1 r1 a1 q1 =>
    k2 Z1 σ H1 M1 ρ p v _ _ s1 (en.mono r1.z) a1 q1 (k.nx.next r1)⟩
/-- a, b = e1, e2; a, b, c = .. -/
def dPar (i j : Nat) (ta : TDa) : TSd := fun D ρ M => ta ρ M fun ps M1 => match ps with
  | [p, q] => D.nx (put (put ρ i p) j q) M1
  | _ => False
def dPar3 (i j m : Nat) (ta : TDa) : TSd := fun D ρ M => ta ρ M fun ps M1 => match ps with
  | [p, q, r] => D.nx (put (put (put ρ i p) j q) m r) M1
  | _ => False
theorem ds_par {i j : Nat} {st : Stmt} {es : List Expr} {ta : TDa} (hp : ∀ ht : TA, PA X es ht → PS X st (tPar i j ht)) (h : DA X R es ta) : DS X R st (dPar i j ta) := by
  obtain ⟨g1, p1, k1⟩ := h.ex
  refine ⟨_, hp _ p1, fun Z σ H M ρ D D' s en l k t => k1 Z σ H M ρ _ _ s en l t fun ps vs Z1 M1 H1 s1 r1 a1 q1 => ?_⟩
  match ps, q1 with
  | [p, q], q1 =>
    obtain ⟨v, u, e, a, b⟩ := isL_two a1
    exact ⟨v, u, e, k.nx _ _ Z1 M1 H1 s1 r1 (((en.mono r1.z).put a i).put b j) q1⟩
theorem isL_three {K : PySem.W.Frag} {Z : Hp} {p q r : P} {vs : List V} (h : IsL K Z [p, q, r] vs) : ∃ v u w, vs = [v, u, w] ∧ Is K Z p v ∧ Is K Z q u ∧ Is K Z r w := by
  obtain ⟨v, t, e, a, l⟩ := h
  obtain ⟨u, w, e2, b, c⟩ := isL_two l
  rw [e2] at e
  exact ⟨v, u, w, e, a, b, c⟩
theorem ds_par3 {i j m : Nat} {st : Stmt} {es : List Expr} {ta : TDa} (hp : ∀ ht : TA, PA X es ht → PS X st (tPar3 i j m ht)) (h : DA X R es ta) : DS X R st (dPar3 i j m ta) := by
  obtain ⟨g1, p1, k1⟩ := h.ex
  refine ⟨_, hp _ p1, fun Z σ H M ρ D D' s en l k t => k1 Z σ H M ρ _ _ s en l t fun ps vs Z1 M1 H1 s1 r1 a1 q1 => ?_⟩
  match ps, q1 with
  | [p, q, r], q1 =>
    obtain ⟨v, u, w, e, a, b, c⟩ := isL_three a1
    exact ⟨v, u, w, e, k.nx _ _ Z1 M1 H1 s1 r1 ((((en.mono r1.z).put a i).put b j).put c m) q1⟩
/-- x[i] = e, x a mutable list -/
def gdSub (to ti : TD) : TGd := fun p ρ M Φ => to ρ M fun o M1 => ti ρ M1 fun i M2 => match o, i with
  | .ref a, .int k => ∃ xs j, M2 a = some (.lst xs) ∧ ixN xs.length k = some j ∧ Φ ρ (updM M2 a (.lst (xs.set j p)))
  | _, _ => False
theorem dg_sub {o i : Expr} {to ti : TD} {pos} (ho : DE X R0 o to) (hi : DE X R0 i ti)
    (ha : ∀ v, assign (.Subscript o i pos) X.env v = (do
      let ov ← holding [v] (eval o X.env)
      let iv ← holding [v, ov] (eval i X.env)
      standAt pos
      holding [v, ov, iv] (setItem ov iv v)
      release [v, ov, iv] []) := by intro _; rfl) : DG X (.Subscript o i pos) (gdSub to ti) := by
  obtain ⟨g1, p1, k1⟩ := ho.ex
  obtain ⟨g2, p2, k2⟩ := hi.ex
  refine ⟨_, pg_sub p1 p2 set_list ha, fun Z σ H M ρ p v Φ Q s en a g k => k1 Z σ H M ρ _ _ s en .zero g fun o ov Z1 M1 H1 s1 r1 a1 q1 => ?_⟩
  refine k2 Z1 σ H1 M1 ρ _ _ s1 (en.mono r1.z) .zero q1 fun i iv Z2 M2 H2 s2 r2 a2 q2 => ?_
  cases o with
  | ref c =>
    cases i with
    | int n =>
      obtain ⟨xs, j, hm, hj, q⟩ := q2
      obtain ⟨vs, hh, l⟩ := s2.m c _ hm
      have eo : ov = .ref c := a1.mono r2.z
      have ei : iv = .int n := a2
      have rr := r1.trans r2
      refine ⟨c, vs, n, j, eo, ei, hh, by rw [← l.length]; exact hj, ?_⟩
      obtain ⟨s3, r3⟩ := s2.wr (u := .lst (xs.set j p)) (o := .lst (vs.set j v)) hm ⟨_, upd_same, l.set (a.mono rr.z) j⟩
      exact k ρ σ _ _ _ s3 (rr.trans r3) ((en.mono rr.z).mono r3.z) q
    | _ => exact q2.elim
  | _ => exact q2.elim
/-! while -/
def dWhile (c : TDt) (tb : TSd) : TSd := fun D ρ M => ∃ I : Nat → Rho → Mm → Prop, (∃ m, I m ρ M) ∧ ∀ m ρ M, I m ρ M → c ρ M fun b M1 =>
  if b = true then tb { D with nx := fun ρ2 M2 => ∃ m', m' < m ∧ I m' ρ2 M2, ct := fun ρ2 M2 => ∃ m', m' < m ∧ I m' ρ2 M2, bk := D.nx } ρ M1 else D.nx ρ M1
theorem ds_while {c : Expr} {body : List Stmt} {tc : TDt} {tb : TSd} {pos : Pos} (hp : PassesOwn (model X.prog X.w) X.A X.env X.xe) (hc : DT X R c tc) (hb : DSs X R body tb) : DS X R (.While c body [] pos) (dWhile tc tb) := by
  obtain ⟨g, p, k⟩ := hc.ex
  obtain ⟨g1, p1, k1⟩ := hb.ex
  refine ⟨_, ps_while hp p p1, fun Z σ H M ρ D D' s en l kk t => ?_⟩
  obtain ⟨I, ⟨m0, i0⟩, turn⟩ := t
  refine ⟨fun m σ1 H1 => ∃ Z1 M1 ρ1, St X.K Z1 M1 H1 ∧ Tr Z M H Z1 M1 H1 ∧ EnvOk X.K Z1 ρ1 σ1 ∧ I m ρ1 M1, ⟨m0, Z, M, ρ, s, .refl, en, i0⟩, ?_⟩
  rintro m σ1 H1 ⟨Z1, M1, ρ1, s1, r1, e1, i1⟩
  refine k Z1 σ1 H1 M1 ρ1 _ _ s1 e1 (l.next r1) (turn m ρ1 M1 i1) fun b Z2 M2 H2 s2 r2 q2 => ?_
  have r12 := r1.trans r2
  cases b with
  | false => exact kk.nx _ _ Z2 M2 H2 s2 r12 (e1.mono r2.z) q2
  | true =>
    refine ⟨fun σ3 H3 => ∃ m', m' < m ∧ ∃ Z1 M1 ρ1, St X.K Z1 M1 H3 ∧ Tr Z M H Z1 M1 H3 ∧ EnvOk X.K Z1 ρ1 σ3 ∧ I m' ρ1 M1, fun σ3 H3 h => h, ?_⟩
    have again : Kn X.K Z2 M2 H2 (fun ρ2 M2 => ∃ m', m' < m ∧ I m' ρ2 M2) (fun σ3 H3 => ∃ m', m' < m ∧ ∃ Z1 M1 ρ1, St X.K Z1 M1 H3 ∧ Tr Z M H Z1 M1 H3 ∧ EnvOk X.K Z1 ρ1 σ3 ∧ I m' ρ1 M1) :=
      fun ρ3 σ3 Z3 M3 H3 s3 r3 e3 ⟨m', hm, i3⟩ => ⟨m', hm, Z3, M3, ρ3, s3, r12.trans r3, e3, i3⟩
    exact k1 Z2 σ1 H2 M2 ρ1 { D with nx := fun ρ2 M2 => ∃ m', m' < m ∧ I m' ρ2 M2, ct := fun ρ2 M2 => ∃ m', m' < m ∧ I m' ρ2 M2, bk := D.nx } _ s2 (e1.mono r2.z) (l.next r12) ⟨again, kk.rt.next r12, kk.nx.next r12, again⟩ q2
/-! ### what a for walks -/
abbrev TId := Rho → Mm → (List P → Mm → Prop) → Prop
/-- the items are these, in whatever state that has grown out of Z1 -/
def WalkP (K : PySem.W.Frag) (J : It) (Z1 : Hp) (items : List P) : Prop :=
  ∀ Z2 M2 H2, St K Z2 M2 H2 → Same Z1 Z2 →
    (∀ i p, items[i]? = some p → J.go i H2 ∧ ∀ x H', J.yld i H2 x H' → ∃ Z3, St K Z3 M2 H' ∧ Tr Z2 M2 H2 Z3 M2 H' ∧ Is K Z3 p x) ∧ J.stop items.length H2
structure DI (X : Cx) (R : Rz) (tg iter : Expr) (t : TId) : Prop where
  ex : ∃ wi : TI, PI X tg iter wi ∧ ∀ Z σ H M ρ Φ (Q : It → Hp → Prop), St X.K Z M H → EnvOk X.K Z ρ σ → Lk X.K R Z M H → t ρ M Φ →
    (∀ items J Z1 M1 H1, St X.K Z1 M1 H1 → Tr Z M H Z1 M1 H1 → WalkP X.K J Z1 items → Φ items M1 → Q J H1) → wi σ H Q
theorem walkP_at {K : PySem.W.Frag} {J : It} {Z1 : Hp} {items : List P} {vs : List V} {G : Hp → Prop} (w : Walk J vs.length G (YAt vs)) (l : IsL K Z1 items vs) (hG : ∀ Z2 H2, Same Z1 Z2 → Same Z2 H2 → G H2) : WalkP K J Z1 items := by
  refine fun Z2 M2 H2 s2 sm => ⟨fun i p hi => ?_, by rw [l.length]; exact w.stops H2 (hG Z2 H2 sm s2.z)⟩
  obtain ⟨v, hv, a⟩ := l.get hi
  have hlt : i < vs.length := (List.getElem?_eq_some_iff.mp hv).1
  refine ⟨w.goes i H2 hlt (hG Z2 H2 sm s2.z), fun x H' y => ?_⟩
  obtain ⟨e1, e2⟩ := w.yields i H2 x H' hlt (hG Z2 H2 sm s2.z) y
  subst e1
  have e2 : vs[i]? = some x := e2
  rw [hv] at e2
  cases e2
  exact ⟨Z2, s2, .refl, a.mono sm⟩
theorem walkP_fn {K : PySem.W.Frag} {J : It} {Z1 : Hp} {n : Nat} {f : Nat → V} {g : Nat → P} {G : Hp → Prop} (w : Walk J n G (YFn f)) (r : ∀ Z i, Is K Z (g i) (f i)) (hG : ∀ H2, G H2) : WalkP K J Z1 ((List.range n).map g) := by
  refine fun Z2 M2 H2 s2 sm => ⟨fun i p hi => ?_, by rw [List.length_map, List.length_range]; exact w.stops H2 (hG H2)⟩
  have hlt : i < n := by
    have := (List.getElem?_eq_some_iff.mp hi).1
    simpa using this
  have ep : p = g i := by
    rw [List.getElem?_map, List.getElem?_range hlt] at hi
    exact (Option.some.inj hi).symm
  subst ep
  refine ⟨w.goes i H2 hlt (hG H2), fun x H' y => ?_⟩
  obtain ⟨e1, e2⟩ := w.yields i H2 x H' hlt (hG H2) y
  subst e1
  have e2 : x = f i := e2
  subst e2
  exact ⟨Z2, s2, .refl, r Z2 i⟩
def pairUp : List P → List P → List P
  | x :: xs, y :: ys => .tup [x, y] :: pairUp xs ys
  | _, _ => []
theorem pairUp_length : ∀ xs ys : List P, (pairUp xs ys).length = min xs.length ys.length
  | [], _ => by simp [pairUp]
  | _ :: _, [] => by simp [pairUp]
  | x :: xs, y :: ys => by simp only [pairUp, List.length_cons, pairUp_length xs ys]; omega
theorem pairUp_get : ∀ {xs ys : List P} {i : Nat} {p : P}, (pairUp xs ys)[i]? = some p → ∃ x y, xs[i]? = some x ∧ ys[i]? = some y ∧ p = .tup [x, y]
  | [], _, i, p, h => by simp [pairUp] at h
  | _ :: _, [], i, p, h => by simp [pairUp] at h
  | x :: xs, y :: ys, 0, p, h => by
    simp [pairUp] at h
    exact ⟨x, y, rfl, rfl, h.symm⟩
  | x :: xs, y :: ys, i + 1, p, h => by
    have h : (pairUp xs ys)[i]? = some p := by simpa [pairUp] using h
    obtain ⟨a, b, h1, h2, h3⟩ := pairUp_get h
    exact ⟨a, b, by simpa using h1, by simpa using h2, h3⟩
theorem walkP_pair {K : PySem.W.Frag} {J : It} {Z1 : Hp} {xs ys : List P} {f g : Nat → Option V} {n : Nat} {G : Hp → Prop} (w : Walk J n G (YPair f g)) (hn : n = min xs.length ys.length)
    (hf : ∀ i x, xs[i]? = some x → ∃ v, f i = some v ∧ Is K Z1 x v) (hg : ∀ i x, ys[i]? = some x → ∃ v, g i = some v ∧ Is K Z1 x v) (hG : ∀ Z2 H2, Same Z1 Z2 → Same Z2 H2 → G H2) : WalkP K J Z1 (pairUp xs ys) := by
  refine fun Z2 M2 H2 s2 sm => ⟨fun i p hi => ?_, by rw [pairUp_length, ← hn]; exact w.stops H2 (hG Z2 H2 sm s2.z)⟩
  have hlt : i < n := by
    have := (List.getElem?_eq_some_iff.mp hi).1
    rw [pairUp_length] at this
    omega
  obtain ⟨x, y, h1, h2, ep⟩ := pairUp_get hi
  subst ep
  refine ⟨w.goes i H2 hlt (hG Z2 H2 sm s2.z), fun x' H' yy => ?_⟩
  obtain ⟨T, u, v, e1, e2, e3, e4, e5⟩ := w.yields i H2 x' H' hlt (hG Z2 H2 sm s2.z) yy
  obtain ⟨u', e4', a⟩ := hf i x h1
  obtain ⟨v', e5', b⟩ := hg i y h2
  rw [e4'] at e4; cases e4
  rw [e5'] at e5; cases e5
  subst e1 e3
  obtain ⟨s3, r3⟩ := s2.frz (o := .tup [u, v]) e2
  exact ⟨_, s3, r3, ⟨T, [u, v], rfl, .inl (.inl upd_same), ⟨u, [v], rfl, (a.mono sm).mono r3.z, ⟨v, [], rfl, (b.mono sm).mono r3.z, rfl⟩⟩⟩⟩
/-! the sources -/
def iLst (t : TD) : TId := fun ρ M Φ => t ρ M fun p M1 => match p with
  | .lst xs => Φ xs M1
  | _ => False
def iTupD (t : TD) : TId := fun ρ M Φ => t ρ M fun p M1 => match p with
  | .tup xs => Φ xs M1
  | _ => False
theorem di_list {tg e : Expr} {t : TD} (h : DE X R e t) : DI X R tg e (iLst t) := by
  obtain ⟨g1, p1, k1⟩ := h.ex
  refine ⟨_, pi_list p1, fun Z σ H M ρ Φ Q s en l t k => k1 Z σ H M ρ _ _ s en l t fun p v Z1 M1 H1 s1 r1 a1 q1 => ?_⟩
  cases p <;> first | exact q1.elim | skip
  rename_i xs
  obtain ⟨b, vs, ex, hq, l1⟩ := a1
  refine ⟨b, ex, ⟨vs, sqL_rd s1.z hq⟩, k xs _ Z1 M1 H1 s1 r1 (walkP_at (walk_list (K := X.K) (a := b) (xs := vs)) l1 fun Z2 H2 e1 e2 => sqL_rd (e1.trans e2) hq) q1⟩
theorem di_tup {tg e : Expr} {t : TD} (h : DE X R e t) : DI X R tg e (iTupD t) := by
  obtain ⟨g1, p1, k1⟩ := h.ex
  refine ⟨_, pi_tup p1, fun Z σ H M ρ Φ Q s en l t k => k1 Z σ H M ρ _ _ s en l t fun p v Z1 M1 H1 s1 r1 a1 q1 => ?_⟩
  cases p <;> first | exact q1.elim | skip
  rename_i xs
  obtain ⟨b, vs, ex, hq, l1⟩ := a1
  refine ⟨b, ex, ⟨vs, seqT_same s1.z hq⟩, k xs _ Z1 M1 H1 s1 r1 (walkP_at (walk_tup (K := X.K) (a := b) (xs := vs)) l1 fun Z2 H2 e1 e2 => seqT_same (e1.trans e2) hq) q1⟩
def iota (lo : Int) (n : Nat) : List P := (List.range n).map fun i => P.int (lo + (i : Nat))
def iRg1 (t : TDa) : TId := fun ρ M Φ => t ρ M fun ps M1 => match ps with
  | [.int j] => (j < 2 ^ 62 ∧ -(2 ^ 62) ≤ j) ∧ Φ (iota 0 j.toNat) M1
  | _ => False
def iRg2 (t : TDa) : TId := fun ρ M Φ => t ρ M fun ps M1 => match ps with
  | [.int i, .int j] => (-(2 ^ 62) ≤ i ∧ i < 2 ^ 62 ∧ -(2 ^ 62) ≤ j ∧ j < 2 ^ 62) ∧ Φ (iota i (j - i).toNat) M1
  | _ => False
theorem line62 : ((sizeLine : Nat) : Int) < 2 ^ 62 := by rw [sizeLine_eq]; decide
theorem di_rg1 {tg a : Expr} {t : TDa} {p pos} (hg : Gl X "range") (hm : X.mg "range" = none) (ha : DA X R [a] t) (hs : starEach [a] X.env = [(false, eval a X.env)] := by rfl) : DI X R tg (.Call (.Name "range" p) [a] [] pos) (iRg1 t) := by
  obtain ⟨g1, p1, k1⟩ := ha.ex
  refine ⟨_, pi_range1 hg hm p1 hs, fun Z σ H M ρ Φ Q s en l t k => k1 Z σ H M ρ _ _ s en l t fun ps vs Z1 M1 H1 s1 r1 a1 q1 => ?_⟩
  match ps, q1 with
  | [.int j], q1 =>
    obtain ⟨v, e, b⟩ := isL_one a1
    have b : v = .int j := b
    refine ⟨j, by rw [e, b], q1.1.2, q1.1.1, k _ _ Z1 M1 H1 s1 r1 ?_ q1.2⟩
    exact walkP_fn walk_range (fun Z i => rfl) (fun _ => True.intro)
theorem di_rg2 {tg a b : Expr} {t : TDa} {p pos} (hg : Gl X "range") (hm : X.mg "range" = none) (ha : DA X R [a, b] t) (hs : starEach [a, b] X.env = [(false, eval a X.env), (false, eval b X.env)] := by rfl) (hs2 : starEach [b] X.env = [(false, eval b X.env)] := by rfl) : DI X R tg (.Call (.Name "range" p) [a, b] [] pos) (iRg2 t) := by
  obtain ⟨g1, p1, k1⟩ := ha.ex
  refine ⟨_, pi_range2 hg hm p1 hs hs2, fun Z σ H M ρ Φ Q s en l t k => k1 Z σ H M ρ _ _ s en l t fun ps vs Z1 M1 H1 s1 r1 a1 q1 => ?_⟩
  match ps, q1 with
  | [.int i, .int j], q1 =>
    obtain ⟨v, u, e, b1, b2⟩ := isL_two a1
    have b1 : v = .int i := b1
    have b2 : u = .int j := b2
    refine ⟨i, j, by rw [e, b1, b2], q1.1, k _ _ Z1 M1 H1 s1 r1 ?_ q1.2⟩
    exact walkP_fn walk_range (fun Z i => rfl) (fun _ => True.intro)
def chars (z : Str) : List P := z.cps.toList.map fun c => P.str ⟨#[c]⟩
def iStrD (t : TD) : TId := fun ρ M Φ => t ρ M fun p M1 => match p with
  | .str z => Φ (chars z) M1
  | _ => False
theorem di_str {tg e : Expr} {t : TD} (h : DE X R e t) : DI X R tg e (iStrD t) := by
  obtain ⟨g1, p1, k1⟩ := h.ex
  refine ⟨_, pi_str p1, fun Z σ H M ρ Φ Q s en l t k => k1 Z σ H M ρ _ _ s en l t fun p v Z1 M1 H1 s1 r1 a1 q1 => ?_⟩
  cases p <;> first | exact q1.elim | skip
  rename_i z
  have ev : v = .str z := a1
  refine ⟨z, ev, k (chars z) _ Z1 M1 H1 s1 r1 (fun Z2 M2 H2 s2 sm => ⟨fun i p hi => ?_, ?_⟩) q1⟩
  · unfold chars at hi
    rw [List.getElem?_map] at hi
    cases hc : z.cps.toList[i]? with
    | none => rw [hc] at hi; cases hi
    | some c =>
      rw [hc] at hi
      have ep : p = P.str ⟨#[c]⟩ := (Option.some.inj hi).symm
      subst ep
      have hc2 : z.cps[i]? = some c := by rw [← Array.getElem?_toList]; exact hc
      refine ⟨(Array.getElem?_eq_some_iff.mp hc2).1, fun x H' y => ?_⟩
      obtain ⟨e1, c', e2, e3⟩ := y
      subst e1 e3
      rw [hc2] at e2
      cases e2
      exact ⟨Z2, s2, .refl, rfl⟩
  · show z.cps.size ≤ (chars z).length
    unfold chars
    rw [List.length_map, Array.length_toList]
    exact Nat.le_refl _
/-- zip of two lists or of two tuples -/
def iZipD (t : TDa) : TId := fun ρ M Φ => t ρ M fun ps M1 => match ps with
  | [.lst xs, .lst ys] => Φ (pairUp xs ys) M1
  | [.tup xs, .tup ys] => Φ (pairUp xs ys) M1
  | _ => False
theorem walk_zipT {K : PySem.W.Frag} {a b : Addr} {xs ys : List V} {n : Nat} (hn : n = min xs.length ys.length) : Walk (ItzT K a b) n (fun H => SqT K H a xs ∧ SqT K H b ys) (YPair (fun i => xs[i]?) (fun i => ys[i]?)) := by
  subst hn
  refine ⟨fun i _ hi q => ?_, fun _ q => ⟨xs, ys, q.1, q.2, by omega⟩, fun i H v H' _ q y => ?_⟩
  · have h1 : i < xs.length := by omega
    have h2 : i < ys.length := by omega
    exact ⟨xs, ys, xs[i], ys[i], q.1, q.2, by simp [h1], by simp [h2]⟩
  · obtain ⟨T, x, z, h1, h2, h3, h4, h5⟩ := y
    exact ⟨T, x, z, h1, h2, h3, h4 xs q.1, h5 ys q.2⟩
theorem di_zip {e e2 : Expr} {t : TDa} {p pos tpos : Pos} {elts : List Expr} {kk : Nat} (hg : Gl X "zip") (hm : X.mg "zip" = none) (ha : DA X R [e, e2] t)
    (hs : starEach [e, e2] X.env = (false, eval e X.env) :: starEach [e2] X.env := by rfl) (hpl : (backTo pos (starEach [e2] X.env)).any (·.1) = false := by rfl) : DI X R (.Tuple elts kk tpos) (.Call (.Name "zip" p) [e, e2] [] pos) (iZipD t) := by
  obtain ⟨g1, p1, k1⟩ := ha.ex
  refine ⟨_, pi_zipA hg hm p1 hs hpl, fun Z σ H M ρ Φ Q s en l t k => k1 Z σ H M ρ _ _ s en l t fun ps vs Z1 M1 H1 s1 r1 a1 q1 => ?_⟩
  match ps, q1 with
  | [.lst xs, .lst ys], q1 =>
    obtain ⟨v, u, e, b1, b2⟩ := isL_two a1
    obtain ⟨a, vs, ex, hx, lx⟩ := b1
    obtain ⟨b, ws, ey, hy, ly⟩ := b2
    refine ⟨a, b, vs, ws, by rw [e, ex, ey], .inl ⟨sqL_rd s1.z hx, sqL_rd s1.z hy, k _ _ Z1 M1 H1 s1 r1 ?_ q1⟩⟩
    exact walkP_pair (walk_zip (K := X.K) (a := a) (b := b) (xs := vs) (ys := ws) rfl) (by rw [lx.length, ly.length]) (fun i x h => lx.get h) (fun i x h => ly.get h) fun Z2 H2 e1 e2 => ⟨sqL_rd (e1.trans e2) hx, sqL_rd (e1.trans e2) hy⟩
  | [.tup xs, .tup ys], q1 =>
    obtain ⟨v, u, e, b1, b2⟩ := isL_two a1
    obtain ⟨a, vs, ex, hx, lx⟩ := b1
    obtain ⟨b, ws, ey, hy, ly⟩ := b2
    refine ⟨a, b, vs, ws, by rw [e, ex, ey], .inr ⟨seqT_same s1.z hx, seqT_same s1.z hy, k _ _ Z1 M1 H1 s1 r1 ?_ q1⟩⟩
    exact walkP_pair (walk_zipT (K := X.K) (a := a) (b := b) (xs := vs) (ys := ws) rfl) (by rw [lx.length, ly.length]) (fun i x h => lx.get h) (fun i x h => ly.get h) fun Z2 H2 e1 e2 => ⟨seqT_same (e1.trans e2) hx, seqT_same (e1.trans e2) hy⟩
/-! ### for -/
def forW (g : TGd) (tb : TSd) (D : DEnds) : List P → Rho → Mm → Prop
  | [], ρ, M => D.nx ρ M
  | x :: xs, ρ, M => g x ρ M fun ρ1 M1 => tb { D with nx := forW g tb D xs, ct := forW g tb D xs, bk := D.nx } ρ1 M1
def dFor (t : TId) (g : TGd) (tb : TSd) : TSd := fun D ρ M => t ρ M fun items M1 => forW g tb D items ρ M1
theorem drop_get {α : Type} : ∀ {l : List α} {i : Nat} {x : α}, l[i]? = some x → l.drop i = x :: l.drop (i + 1)
  | [], i, x, h => by simp at h
  | a :: l, 0, x, h => by
    have e : a = x := by simpa using h
    rw [e]
    rfl
  | a :: l, i + 1, x, h => drop_get (l := l) (i := i) (by simpa using h)
theorem ds_for {tg iter : Expr} {body : List Stmt} {t : TId} {g : TGd} {tb : TSd} {pos : Pos} (hp : PassesOwn (model X.prog X.w) X.A X.env X.xe) (hc : X.calm = true) (hi : DI X R tg iter t) (hg : DG X tg g) (hb : DSs X R body tb)
    (hs : ∀ x, foldedSetIterable iter X.env x = pure x := by intro _; rfl) : DS X R (.For tg iter body [] pos) (dFor t g tb) := by
  obtain ⟨g1, p1, k1⟩ := hi.ex
  obtain ⟨g2, p2, k2⟩ := hg.ex
  obtain ⟨g3, p3, k3⟩ := hb.ex
  refine ⟨_, ps_for hp hc p1 p2 p3 hs, fun Z σ H M ρ D D' s en l kk t => k1 Z σ H M ρ _ _ s en l t fun items J Z1 M1 H1 s1 r1 w q1 => ?_⟩
  have wk := w
  refine ⟨fun i m σ2 H2 => ∃ Z2 M2 ρ2, St X.K Z2 M2 H2 ∧ Tr Z M H Z2 M2 H2 ∧ Same Z1 Z2 ∧ EnvOk X.K Z2 ρ2 σ2 ∧ m = items.length - i ∧ i ≤ items.length ∧ forW g tb D (items.drop i) ρ2 M2, ⟨_, Z1, M1, ρ, s1, r1, Same.refl _, en.mono r1.z, rfl, Nat.zero_le _, by rw [List.drop_zero]; exact q1⟩, ?_⟩
  rintro i m σ2 H2 ⟨Z2, M2, ρ2, s2, r2, z2, e2, rfl, hle, f2⟩
  obtain ⟨go, stop⟩ := wk Z2 M2 H2 s2 z2
  by_cases hlt : i < items.length
  · have hx : items[i]? = some items[i] := by simp [hlt]
    rw [drop_get hx] at f2
    obtain ⟨hgo, yl⟩ := go i _ hx
    let N : L2.St → Hp → Prop := fun σ3 H3 => ∃ Z2 M2 ρ2, St X.K Z2 M2 H3 ∧ Tr Z M H Z2 M2 H3 ∧ Same Z1 Z2 ∧ EnvOk X.K Z2 ρ2 σ3 ∧ forW g tb D (items.drop (i + 1)) ρ2 M2
    refine .inr ⟨hgo, N, fun σ3 H3 ⟨Z3, M3, ρ3, s3, r3, z3, e3, f3⟩ => ⟨items.length - (i + 1), by omega, Z3, M3, ρ3, s3, r3, z3, e3, rfl, hlt, f3⟩, fun x H' y => ?_⟩
    obtain ⟨Z3, s3, r3, a3⟩ := yl x H' y
    have r23 := r2.trans r3
    refine k2 Z3 σ2 H' M2 ρ2 _ x _ _ s3 (e2.mono r3.z) a3 f2 fun ρ4 σ4 Z4 M4 H4 s4 r4 e4 q4 => ?_
    have r24 := r23.trans r4
    have again : Kn X.K Z4 M4 H4 (forW g tb D (items.drop (i + 1))) N := fun ρ5 σ5 Z5 M5 H5 s5 r5 e5 q5 => ⟨Z5, M5, ρ5, s5, r24.trans r5, z2.trans (r3.z.trans (r4.z.trans r5.z)), e5, q5⟩
    exact k3 Z4 σ4 H4 M4 ρ4 { D with nx := forW g tb D (items.drop (i + 1)), ct := forW g tb D (items.drop (i + 1)), bk := D.nx } _ s4 e4 (l.next r24) ⟨again, kk.rt.next r24, kk.nx.next r24, again⟩ q4
  · have ei : i = items.length := by omega
    subst ei
    rw [List.drop_length] at f2
    exact .inl ⟨stop, kk.nx _ _ Z2 M2 H2 s2 r2 e2 f2⟩
end
end NC

end
section
set_option Elab.async false
set_option linter.all false
set_option maxRecDepth 100000
set_option maxHeartbeats 2000000
namespace NC
open PySem PySem.Spec PyProof.Rows L2 RZ
/-! ### the judgements by one reading -/
def upE (K : PySem.W.Frag) (R : Rz) (t : TD) : TE := fun σ H Q => ∃ Z M ρ Φ, St K Z M H ∧ EnvOk K Z ρ σ ∧ Lk K R Z M H ∧ t ρ M Φ ∧ Kp K Z M H Φ Q
def Kb (K : PySem.W.Frag) (Z : Hp) (M : Mm) (H : Hp) (Φ : Bool → Mm → Prop) (Q : Bool → Hp → Prop) : Prop := ∀ b Z1 M1 H1, St K Z1 M1 H1 → Tr Z M H Z1 M1 H1 → Φ b M1 → Q b H1
def upT (K : PySem.W.Frag) (R : Rz) (t : TDt) : TT := fun σ H Q => ∃ Z M ρ Φ, St K Z M H ∧ EnvOk K Z ρ σ ∧ Lk K R Z M H ∧ t ρ M Φ ∧ Kb K Z M H Φ Q
section
variable {X : Cx} {R : Rz}
theorem DE.up {e : Expr} {t : TD} (h : DE X R e t) : PE X e (upE X.K R t) := by
  obtain ⟨ht, p, k⟩ := h.ex
  exact ⟨fun pins s σ H Q I ⟨Z, M, ρ, Φ, a, b, c, d, e⟩ => p.run pins s σ H Q I (k Z σ H M ρ Φ Q a b c d e)⟩
theorem DT.up {e : Expr} {t : TDt} (h : DT X R e t) : PT X e (upT X.K R t) := by
  obtain ⟨ht, p, k⟩ := h.ex
  exact ⟨fun pins s σ H Q I ⟨Z, M, ρ, Φ, a, b, c, d, e⟩ => p.run pins s σ H Q I (k Z σ H M ρ Φ Q a b c d e)⟩
/-- the tests of a clause -/
def dYes : TDt := fun _ M Φ => Φ true M
structure DTs (X : Cx) (R : Rz) (es : List Expr) (t : TDt) : Prop where
  up : PTs X es (upT X.K R t)
theorem dts_nil : DTs X R [] dYes := ⟨⟨fun pins s σ H Q I ⟨Z, M, ρ, Φ, a, b, c, d, e⟩ => pts_nil.run pins s σ H Q I (e true Z M H a .refl d)⟩⟩
theorem dts_one {e : Expr} {t : TDt} (h : DT X R e t) : DTs X R [e] t := ⟨pts_one h.up⟩
/-! ### a comprehension's targets -/
def wipeR (ρ : Rho) : List Nat → Rho
  | [] => ρ
  | v :: vs => unput (wipeR ρ vs) v
where unput : Rho → Nat → Rho
  | [], _ => []
  | _ :: r, 0 => none :: r
  | o :: r, n + 1 => o :: unput r n
theorem unput_eq : ∀ (ρ : Rho) (i : Nat), wipeR.unput ρ i = ρ.set i none
  | [], i => by simp [wipeR.unput]
  | _ :: r, 0 => rfl
  | o :: r, n + 1 => by
    show o :: wipeR.unput r n = o :: r.set n none
    rw [unput_eq r n]
theorem EnvOk.wipe {K : PySem.W.Frag} {Z : Hp} {ρ : Rho} {σ : L2.St} (h : EnvOk K Z ρ σ) : ∀ vs, EnvOk K Z (wipeR ρ vs) (L2.wipe σ vs)
  | [] => h
  | v :: vs => by
    show EnvOk K Z (wipeR.unput (wipeR ρ vs) v) ((L2.wipe σ vs).set v none)
    rw [unput_eq]
    exact (EnvOk.wipe h vs).unset v
theorem wipe_set {σ : L2.St} {i : Nat} {x : Option V} : ∀ {vs : List Nat}, i ∈ vs → L2.wipe (σ.set i x) vs = L2.wipe σ vs
  | v :: vs, h => by
    unfold L2.wipe
    by_cases hv : i = v
    · subst hv
      by_cases hm : i ∈ vs
      · rw [wipe_set hm]
      · -- the outer store wipes it
        have key : ∀ (vs : List Nat) (τ : L2.St), (L2.wipe (τ.set i x) vs).set i none = (L2.wipe τ vs).set i none := fun vs => by
          induction vs with
          | nil => intro τ; unfold L2.wipe; rw [List.set_set]
          | cons w ws ih =>
            intro τ
            unfold L2.wipe
            by_cases hw : w = i
            · subst hw
              rw [List.set_set, List.set_set, ih τ]
            · rw [List.set_comm _ _ hw, ih τ, List.set_comm _ _ (Ne.symm hw)]
        exact key vs σ
    · rcases List.mem_cons.mp h with e | hm
      · exact absurd e hv
      · rw [wipe_set hm]
structure DGc (X : Cx) (vs : List Nat) (tg : Expr) (g : TGd) : Prop where
  ex : ∃ hg : TG, PG X tg hg ∧ ∀ Z σ H M ρ p v Φ Q, St X.K Z M H → EnvOk X.K Z ρ σ → Is X.K Z p v → g p ρ M Φ → Kn X.K Z M H Φ (fun σ1 H1 => L2.wipe σ1 vs = L2.wipe σ vs → Q σ1 H1) → hg v σ H Q
structure DGcs (X : Cx) (vs : List Nat) (tgs : List Expr) (g : TGds) : Prop where
  ex : ∃ hg : TGs, PGs X tgs hg ∧ ∀ Z σ H M ρ ps us Φ Q, St X.K Z M H → EnvOk X.K Z ρ σ → IsL X.K Z ps us → g ps ρ M Φ → Kn X.K Z M H Φ (fun σ1 H1 => L2.wipe σ1 vs = L2.wipe σ vs → Q σ1 H1) → hg us σ H Q
theorem dgc_name {vs : List Nat} {i : Nat} {tg : Expr} (h : PG X tg (gName i)) (hi : i ∈ vs) : DGc X vs tg (gdName i) :=
  ⟨_, h, fun Z σ H M ρ p v Φ Q s en a g k => k _ _ Z M H s .refl (en.put a i) g (wipe_set hi)⟩
theorem dgcs_nil {vs : List Nat} : DGcs X vs [] gdNil := ⟨_, pgs_nil, fun Z σ H M ρ ps us Φ Q s en a g k => by
  cases ps with
  | nil => exact ⟨a, k _ _ Z M H s .refl en g rfl⟩
  | cons p r => exact g.elim⟩
theorem dgcs_cons {vs : List Nat} {e : Expr} {es : List Expr} {t : TGd} {u : TGds} (h1 : DGc X vs e t) (h2 : DGcs X vs es u) (hs : (assignEach (e :: es) X.env).map (·.2) = assign e X.env :: (assignEach es X.env).map (·.2) := by rfl) : DGcs X vs (e :: es) (gdCons t u) := by
  obtain ⟨g1, p1, k1⟩ := h1.ex
  obtain ⟨g2, p2, k2⟩ := h2.ex
  refine ⟨_, pgs_cons p1 p2 hs, fun Z σ H M ρ ps us Φ Q s en a g k => ?_⟩
  cases ps with
  | nil => exact g.elim
  | cons p r =>
    obtain ⟨v, w, rfl, a1, l⟩ := a
    refine ⟨v, w, rfl, k1 Z σ H M ρ p v _ _ s en a1 g fun ρ1 σ1 Z1 M1 H1 s1 r1 e1 q1 hw => ?_⟩
    exact k2 Z1 σ1 H1 M1 ρ1 r w _ _ s1 e1 (l.mono r1.z) q1 fun ρ2 σ2 Z2 M2 H2 s2 r2 e2 q2 hw2 => k ρ2 σ2 Z2 M2 H2 s2 (r1.trans r2) e2 q2 (hw2.trans hw)
theorem dgc_tup {vs : List Nat} {es : List Expr} {k : Nat} {t : TGds} {n : Nat} {pos} (hc : X.calm = true) (h : DGcs X vs es t) (hn : (assignEach es X.env).length = n := by rfl) (hst : (assignEach es X.env).findIdx? (·.1) = none := by rfl) : DGc X vs (.Tuple es k pos) (gdTup n t) := by
  obtain ⟨g1, p1, k1⟩ := h.ex
  refine ⟨_, pg_tup hc p1 hn hst, fun Z σ H M ρ p v Φ Q s en a g kk => ?_⟩
  cases p <;> first | exact g.elim | skip
  rename_i xs
  obtain ⟨b, ws, ex, hq, l⟩ := a
  exact ⟨b, ws, ex, seqT_same s.z hq, by rw [← l.length]; exact g.1, k1 Z σ H M ρ xs ws Φ Q s en l g.2 kk⟩
def upG (K : PySem.W.Frag) (vs : List Nat) (g : TGd) : TG := fun v σ H Q => ∃ Z M ρ p Φ, St K Z M H ∧ EnvOk K Z ρ σ ∧ Is K Z p v ∧ g p ρ M Φ ∧ Kn K Z M H Φ (fun σ1 H1 => L2.wipe σ1 vs = L2.wipe σ vs → Q σ1 H1)
theorem DGc.up {vs : List Nat} {tg : Expr} {g : TGd} (h : DGc X vs tg g) : PG X tg (upG X.K vs g) := by
  obtain ⟨hg, p, k⟩ := h.ex
  exact ⟨fun pins s σ H v u Q I r ⟨Z, M, ρ, p', Φ, a, b, c, d, e⟩ => p.run pins s σ H v u Q I r (k Z σ H M ρ p' v Φ Q a b c d e)⟩
/-! ### list comprehensions -/
def lcW (g : TGd) (tt : TDt) (te : TD) (fin : List P → Mm → Prop) (ρ0 : Rho) : List P → List P → Mm → Prop
  | [], acc, M => fin acc M
  | x :: xs, acc, M => g x ρ0 M fun ρ1 M1 => tt ρ1 M1 fun b M2 => if b = true then te ρ1 M2 fun p M3 => lcW g tt te fin ρ0 xs (acc ++ [p]) M3 else lcW g tt te fin ρ0 xs acc M2
def dLc (ti : TId) (g : TGd) (tt : TDt) (te : TD) (vs : List Nat) : TD := fun ρ M Φ => ti ρ M fun items M1 => items.length ≤ sizeLine ∧ lcW g tt te (fun acc M => Φ (.lst acc) M) (wipeR ρ vs) items [] M1
def dLcM (ti : TId) (g : TGd) (tt : TDt) (te : TD) (vs : List Nat) : TD := fun ρ M Φ => ti ρ M fun items M1 => items.length ≤ sizeLine ∧ lcW g tt te (fun acc M => ∀ a, M a = none → Φ (.ref a) (updM M a (.lst acc))) (wipeR ρ vs) items [] M1
theorem lc_read {K : PySem.W.Frag} {g : TGd} {tt : TDt} {te : TD} {vs : List Nat} {fin : List P → Mm → Prop} {Q : VK} {J : It} {items : List P} {ρ : Rho} {σ : L2.St} {Z Z1 : Hp} {M M1 : Mm} {H H1 : Hp}
    (s1 : St K Z1 M1 H1) (r1 : Tr Z M H Z1 M1 H1) (en : EnvOk K Z1 ρ σ) (w : WalkP K J Z1 items) (hz : items.length ≤ sizeLine) (q : lcW g tt te fin (wipeR ρ vs) items [] M1)
    (k : ∀ D acc accV Z2 M2 H2, St K Z2 M2 H2 → Tr Z M H Z2 M2 H2 → H D = none → H2 D = some (.lst accV) → Z2 D = none → M2 D = none → IsL K Z2 acc accV → fin acc M2 → Q (.ref D) H2) :
    ∀ D, H1 D = none → ∃ W : Nat → Nat → Hp → Prop, (∃ m, W 0 m (upd H1 D (.lst []))) ∧ ∀ i m H, W i m H →
      (J.stop i H ∧ Q (.ref D) H) ∨ (J.go i H ∧ ∃ Nx : Hp → Prop, (∀ H', Nx H' → ∃ m', m' < m ∧ W (i + 1) m' H') ∧ ∀ x H', J.yld i H x H' → upG K vs g x (L2.wipe σ vs) H' fun σ2 H2 => L2.wipe σ2 vs = L2.wipe σ vs ∧ upT K R0 tt σ2 H2 fun b H3 =>
        if b = true then upE K R0 te σ2 H3 fun y H4 => ∃ acc, H4 D = some (.lst acc) ∧ acc.length < sizeLine ∧ Nx (upd H4 D (.lst (acc ++ [y]))) else Nx H3) := by
  intro D hD
  have hD0 : H D = none := r1.t D hD
  -- what holds between the turns
  let B : Nat → Hp → Prop := fun i H2 => ∃ Z2 M2 acc accV, St K Z2 M2 H2 ∧ Tr Z M H Z2 M2 H2 ∧ Same Z1 Z2 ∧ H2 D = some (.lst accV) ∧ Z2 D = none ∧ M2 D = none ∧ IsL K Z2 acc accV ∧ acc.length ≤ i ∧ lcW g tt te fin (wipeR ρ vs) (items.drop i) acc M2
  have ww : ∀ n, L2.wipe (L2.wipe σ n) n = L2.wipe σ n := fun n => by
    have key : ∀ (ns ms : List Nat) (τ : L2.St), (∀ i ∈ ns, i ∈ ms) → L2.wipe (L2.wipe τ ns) ms = L2.wipe τ ms := fun ns => by
      induction ns with
      | nil => intro ms τ _; rfl
      | cons a as ih =>
        intro ms τ h
        show L2.wipe ((L2.wipe τ as).set a none) ms = _
        rw [wipe_set (h a List.mem_cons_self)]
        exact ih ms τ fun i hi => h i (List.mem_cons_of_mem _ hi)
    exact key n n σ fun _ h => h
  refine ⟨fun i m H2 => m = items.length - i ∧ i ≤ items.length ∧ B i H2, ⟨_, rfl, Nat.zero_le _, ?_⟩, ?_⟩
  · obtain ⟨s2, r2⟩ := s1.tmp (o := .lst []) hD
    exact ⟨Z1, M1, [], [], s2, r1.trans r2, Same.refl _, upd_same, s1.zn hD, s1.mn hD, rfl, Nat.le_refl _, by rw [List.drop_zero]; exact q⟩
  rintro i m H2 ⟨rfl, hle, Z2, M2, acc, accV, s2, r2, z2, d2, dz2, dm2, l2, len2, f2⟩
  obtain ⟨go, stop⟩ := w Z2 M2 H2 s2 z2
  by_cases hlt : i < items.length
  · have hx : items[i]? = some items[i] := by simp [hlt]
    rw [drop_get hx] at f2
    obtain ⟨hgo, yl⟩ := go i _ hx
    refine .inr ⟨hgo, B (i + 1), fun H3 b => ⟨items.length - (i + 1), by omega, rfl, hlt, b⟩, fun x H' y => ?_⟩
    obtain ⟨Z3, s3, r3, a3⟩ := yl x H' y
    refine ⟨Z3, M2, wipeR ρ vs, _, _, s3, ((en.mono (z2.trans r3.z)).wipe vs), a3, f2, fun ρ4 σ4 Z4 M4 H4 s4 r4 e4 q4 hw => ⟨hw.trans (ww vs), ?_⟩⟩
    have r24 := r3.trans r4
    refine ⟨Z4, M4, ρ4, _, s4, e4, .zero, q4, fun b Z5 M5 H5 s5 r5 q5 => ?_⟩
    have r25 := r24.trans r5
    cases b with
    | false =>
      obtain ⟨h5, m5, z5⟩ := r25.k D _ d2 dm2
      exact ⟨Z5, M5, acc, accV, s5, r2.trans r25, z2.trans r25.z, h5, z5.trans dz2, m5, l2.mono r25.z, by omega, q5⟩
    | true =>
      refine ⟨Z5, M5, ρ4, _, s5, e4.mono r5.z, .zero, q5, fun p v Z6 M6 H6 s6 r6 a6 q6 => ?_⟩
      have r26 := r25.trans r6
      obtain ⟨h6, m6, z6⟩ := r26.k D _ d2 dm2
      refine ⟨accV, h6, by rw [← l2.length]; omega, ?_⟩
      have s7 : St K Z6 M6 (upd H6 D (.lst (accV ++ [v]))) := s6.own h6 (z6.trans dz2) m6
      have r27 := r2.trans r26
      refine ⟨Z6, M6, acc ++ [p], accV ++ [v], s7, ⟨r27.z, fun b o hb n => ?_, fun b hb => ?_⟩, z2.trans r26.z, upd_same, z6.trans dz2, m6, (l2.mono r26.z).snoc a6, by rw [List.length_append]; exact Nat.succ_le_succ len2, q6⟩
      · obtain ⟨x1, x2, x3⟩ := r27.k b o hb n
        exact ⟨by rw [upd_ne (ne_of_none hb hD0)]; exact x1, x2, x3⟩
      · by_cases hbD : b = D
        · rw [hbD]; exact hD0
        · rw [upd_ne hbD] at hb; exact r27.t b hb
  · have ei : i = items.length := by omega
    subst ei
    rw [List.drop_length] at f2
    exact .inl ⟨stop, k D acc accV Z2 M2 H2 s2 r2 hD0 d2 dz2 dm2 l2 f2⟩
/-- a list in the making, done: frozen, or mutable -/
theorem own_frz {K : PySem.W.Frag} {Z : Hp} {M : Mm} {H Z0 H0 : Hp} {M0 : Mm} {D : Addr} {acc : List P} {accV : List V} (s : St K Z M H) (r : Tr Z0 M0 H0 Z M H) (h0 : H0 D = none) (h : H D = some (.lst accV)) (hz : Z D = none) (hm : M D = none) (l : IsL K Z acc accV) :
    St K (upd Z D (.lst accV)) M H ∧ Tr Z0 M0 H0 (upd Z D (.lst accV)) M H ∧ Is K (upd Z D (.lst accV)) (.lst acc) (.ref D) := by
  have sz : Same Z (upd Z D (.lst accV)) := same_upd hz
  refine ⟨⟨fun b u q => ?_, fun a u q => (s.m a u q).stay sz rfl fun c q2 e n => ⟨e, n⟩, fun a u q => ?_⟩, ⟨r.z.trans sz, fun b o hb n => ?_, r.t⟩, ⟨D, accV, rfl, .inl upd_same, l.mono sz⟩⟩
  · by_cases hb : b = D
    · rw [hb, upd_same] at q; rw [hb]; exact h.trans q
    · rw [upd_ne hb] at q; exact s.z b u q
  · have hb : a ≠ D := fun z => by rw [z, hm] at q; cases q
    rw [upd_ne hb]; exact s.d a u q
  · obtain ⟨x1, x2, x3⟩ := r.k b o hb n
    exact ⟨x1, x2, by rw [upd_ne (ne_of_none hb h0)]; exact x3⟩
theorem own_mut {K : PySem.W.Frag} {Z : Hp} {M : Mm} {H Z0 H0 : Hp} {M0 : Mm} {D : Addr} {acc : List P} {accV : List V} (s : St K Z M H) (r : Tr Z0 M0 H0 Z M H) (h0 : H0 D = none) (h : H D = some (.lst accV)) (hz : Z D = none) (hm : M D = none) (l : IsL K Z acc accV) :
    St K Z (updM M D (.lst acc)) H ∧ Tr Z0 M0 H0 Z (updM M D (.lst acc)) H := by
  have kk : ∀ c q, H c = some (LamX.CodeO c q) → M c = none → H c = some (LamX.CodeO c q) ∧ updM M D (.lst acc) c = none := fun c q e n => by
    have hc : c ≠ D := fun z => by
      rw [z, h] at e
      unfold LamX.CodeO at e
      cases e
    exact ⟨e, by rw [updM_ne hc]; exact n⟩
  refine ⟨⟨s.z, fun a u q => ?_, fun a u q => ?_⟩, ⟨r.z, fun b o hb n => ?_, r.t⟩⟩
  · by_cases ha : a = D
    · rw [ha, updM_same] at q; cases q; rw [ha]; exact ⟨accV, h, l⟩
    · rw [updM_ne ha] at q; exact (s.m a u q).stay (Same.refl _) rfl kk
  · by_cases ha : a = D
    · rw [ha]; exact hz
    · rw [updM_ne ha] at q; exact s.d a u q
  · obtain ⟨x1, x2, x3⟩ := r.k b o hb n
    exact ⟨x1, by rw [updM_ne (ne_of_none hb h0)]; exact x2, x3⟩
variable {elt tg iter : Expr} {ifs : List Expr} {scope : Scope} {own : List (Str × Nat)} {pos spos : Pos} {ti : TId} {g : TGd} {tt : TDt} {te : TD}
abbrev Blk (X : Cx) (scope : Scope) (F : Cx → Prop) : Prop := ∀ (s : Shared) (H : Hp) (C : Addr) (cl : List (Str × Addr)) (fp : List Addr), F (X.blk s H scope (compEnvC scope cl C X.env) fp)
/-- a comprehension: the layer's own reading of it -/
def upLc (K : PySem.W.Frag) (R : Rz) (ti : TId) (g : TGd) (tt : TDt) (te : TD) (vs : List Nat) (fr : Bool) : TE := fun σ H Q => ∃ Z M ρ Φ, St K Z M H ∧ EnvOk K Z ρ σ ∧ Lk K R Z M H ∧ (if fr = true then dLc ti g tt te vs ρ M Φ else dLcM ti g tt te vs ρ M Φ) ∧ Kp K Z M H Φ Q
theorem lc_up {wi : TI} {fr : Bool} (k1 : ∀ Z σ H M ρ Φ (Q : It → Hp → Prop), St X.K Z M H → EnvOk X.K Z ρ σ → Lk X.K R Z M H → ti ρ M Φ →
    (∀ items J Z1 M1 H1, St X.K Z1 M1 H1 → Tr Z M H Z1 M1 H1 → WalkP X.K J Z1 items → Φ items M1 → Q J H1) → wi σ H Q) {vs : List Nat} {σ : L2.St} {H : Hp} {Q : VK} (h : upLc X.K R ti g tt te vs fr σ H Q) :
    tLc wi (upG X.K vs g) (upT X.K R0 tt) (upE X.K R0 te) vs σ H Q := by
  obtain ⟨Z, M, ρ, Φ, s, en, l, t, k⟩ := h
  cases fr with
  | true =>
    refine k1 Z σ H M ρ _ _ s en l t fun items J Z1 M1 H1 s1 r1 w q1 => ?_
    exact lc_read s1 r1 (en.mono r1.z) w q1.1 q1.2 fun D acc accV Z2 M2 H2 s2 r2 d0 d2 dz dm l2 f2 => by
      obtain ⟨s3, r3, a3⟩ := own_frz s2 r2 d0 d2 dz dm l2
      exact k (.lst acc) _ _ M2 H2 s3 r3 a3 f2
  | false =>
    refine k1 Z σ H M ρ _ _ s en l t fun items J Z1 M1 H1 s1 r1 w q1 => ?_
    exact lc_read s1 r1 (en.mono r1.z) w q1.1 q1.2 fun D acc accV Z2 M2 H2 s2 r2 d0 d2 dz dm l2 f2 => by
      obtain ⟨s3, r3⟩ := own_mut s2 r2 d0 d2 dz dm l2
      exact k (.ref D) _ Z2 _ H2 s3 r3 rfl (f2 D dm)
theorem de_lc (hc : X.calm = true) (hN : X.N.Nodup) (hi : DI X R tg iter ti) (ok : BlkOk X.N X.env.scope scope own)
    (hg : Blk X scope fun Y => DGc Y (own.map (·.2)) tg g) (ht : Blk X scope fun Y => DTs Y R0 ifs tt) (he : Blk X scope fun Y => DE Y R0 elt te) (hs : ∀ x, foldedSetIterable iter X.env x = pure x := by intro _; rfl) :
    DE X R (.ListComp elt [⟨tg, iter, ifs, 0⟩] scope pos) (dLc ti g tt te (own.map (·.2))) := by
  obtain ⟨wi, p1, k1⟩ := hi.ex
  refine de_of (pe_lc (g := upG X.K (own.map (·.2)) g) (tt := upT X.K R0 tt) (te := upE X.K R0 te) hc hN p1 ok (fun s H C cl fp => (hg s H C cl fp).up) (fun s H C cl fp => (ht s H C cl fp).up) (fun s H C cl fp => (he s H C cl fp).up) hs) fun Z σ H M ρ Φ Q s en l t k => ?_
  exact lc_up (fr := true) k1 ⟨Z, M, ρ, Φ, s, en, l, t, k⟩
theorem de_lcM (hc : X.calm = true) (hN : X.N.Nodup) (hi : DI X R tg iter ti) (ok : BlkOk X.N X.env.scope scope own)
    (hg : Blk X scope fun Y => DGc Y (own.map (·.2)) tg g) (ht : Blk X scope fun Y => DTs Y R0 ifs tt) (he : Blk X scope fun Y => DE Y R0 elt te) (hs : ∀ x, foldedSetIterable iter X.env x = pure x := by intro _; rfl) :
    DE X R (.ListComp elt [⟨tg, iter, ifs, 0⟩] scope pos) (dLcM ti g tt te (own.map (·.2))) := by
  obtain ⟨wi, p1, k1⟩ := hi.ex
  refine de_of (pe_lc (g := upG X.K (own.map (·.2)) g) (tt := upT X.K R0 tt) (te := upE X.K R0 te) hc hN p1 ok (fun s H C cl fp => (hg s H C cl fp).up) (fun s H C cl fp => (ht s H C cl fp).up) (fun s H C cl fp => (he s H C cl fp).up) hs) fun Z σ H M ρ Φ Q s en l t k => ?_
  exact lc_up (fr := false) k1 ⟨Z, M, ρ, Φ, s, en, l, t, k⟩
/-- name = [..] -/
theorem ds_setLc {i : Nat} {y : Str} {py : Pos} (hc : X.calm = true) (hN : X.N.Nodup) (hy : X.N[i]? = some y) (hyl : X.env.scope.names.lookup y = some .local)
    (hsw : swapsWith (.ListComp elt [⟨tg, iter, ifs, 0⟩] scope pos) (some (.Name y py)) spos.line X.env = pure true) (hi : DI X R tg iter ti) (ok : BlkOk X.N X.env.scope scope own)
    (hg : Blk X scope fun Y => DGc Y (own.map (·.2)) tg g) (ht : Blk X scope fun Y => DTs Y R0 ifs tt) (he : Blk X scope fun Y => DE Y R0 elt te) (hs : ∀ x, foldedSetIterable iter X.env x = pure x := by intro _; rfl) :
    DS X R (.Assign [.Name y py] (.ListComp elt [⟨tg, iter, ifs, 0⟩] scope pos) spos) (dAsg (dLc ti g tt te (own.map (·.2))) (gdName i)) := by
  obtain ⟨wi, p1, k1⟩ := hi.ex
  refine ⟨_, ps_setLc (g := upG X.K (own.map (·.2)) g) (tt := upT X.K R0 tt) (te := upE X.K R0 te) (i := i) hc hN hy hyl hsw p1 ok (fun s H C cl fp => (hg s H C cl fp).up) (fun s H C cl fp => (ht s H C cl fp).up) (fun s H C cl fp => (he s H C cl fp).up) hs, fun Z σ H M ρ D D' s en l k t => ?_⟩
  exact lc_up (fr := true) k1 ⟨Z, M, ρ, _, s, en, l, t, fun p v Z1 M1 H1 s1 r1 a1 q1 => k.nx _ _ Z1 M1 H1 s1 r1 ((en.mono r1.z).put a1 i) q1⟩
theorem ds_setLcM {i : Nat} {y : Str} {py : Pos} (hc : X.calm = true) (hN : X.N.Nodup) (hy : X.N[i]? = some y) (hyl : X.env.scope.names.lookup y = some .local)
    (hsw : swapsWith (.ListComp elt [⟨tg, iter, ifs, 0⟩] scope pos) (some (.Name y py)) spos.line X.env = pure true) (hi : DI X R tg iter ti) (ok : BlkOk X.N X.env.scope scope own)
    (hg : Blk X scope fun Y => DGc Y (own.map (·.2)) tg g) (ht : Blk X scope fun Y => DTs Y R0 ifs tt) (he : Blk X scope fun Y => DE Y R0 elt te) (hs : ∀ x, foldedSetIterable iter X.env x = pure x := by intro _; rfl) :
    DS X R (.Assign [.Name y py] (.ListComp elt [⟨tg, iter, ifs, 0⟩] scope pos) spos) (dAsg (dLcM ti g tt te (own.map (·.2))) (gdName i)) := by
  obtain ⟨wi, p1, k1⟩ := hi.ex
  refine ⟨_, ps_setLc (g := upG X.K (own.map (·.2)) g) (tt := upT X.K R0 tt) (te := upE X.K R0 te) (i := i) hc hN hy hyl hsw p1 ok (fun s H C cl fp => (hg s H C cl fp).up) (fun s H C cl fp => (ht s H C cl fp).up) (fun s H C cl fp => (he s H C cl fp).up) hs, fun Z σ H M ρ D D' s en l k t => ?_⟩
  exact lc_up (fr := false) k1 ⟨Z, M, ρ, _, s, en, l, t, fun p v Z1 M1 H1 s1 r1 a1 q1 => k.nx _ _ Z1 M1 H1 s1 r1 ((en.mono r1.z).put a1 i) q1⟩
end
end NC

end
section
set_option Elab.async false
set_option linter.all false
set_option maxRecDepth 100000
set_option maxHeartbeats 2000000
namespace NC
open PySem PySem.Spec PyProof.Rows L2 RZ
/-! ### what a def promises -/
abbrev XP := Value → List (Str × P) → Mm → Prop
abbrev DSp := List P → Mm → (P → Mm → Prop) → XP → Prop
def Kx (K : PySem.W.Frag) (Z : Hp) (M : Mm) (H : Hp) (Ψ : XP) (E : XK) : Prop := ∀ cls fs d Z1 M1 H1, St K Z1 M1 H1 → Tr Z M H Z1 M1 H1 → ExD K Z1 M1 H1 fs d → Ψ cls fs M1 → E cls d H1
def upS (K : PySem.W.Frag) (n : Nat) (sp : DSp) : Sp := fun vs H Q E => ∃ Z M ds Φ Ψ, St K Z M H ∧ IsL K Z ds vs ∧ ds.length = n ∧ sp ds M Φ Ψ ∧ Kp K Z M H Φ Q ∧ Kx K Z M H Ψ E
def FnP (P : Program) (w : World) (K : PySem.W.Frag) (mg : Str → Option Value) (base : Heap) (k : Nat) (f : Addr) (fd : FuncData) (ps : List Str) (sp : DSp) : Prop :=
  FnOk P w K mg base (L2N.CX P w) k f fd ps (upS K ps.length sp)
theorem FnP.mono {P : Program} {w : World} {K : PySem.W.Frag} {mg : Str → Option Value} {base : Heap} {j k : Nat} {f : Addr} {fd : FuncData} {ps : List Str} {sp : DSp} (F : FnP P w K mg base j f fd ps sp) (h : j ≤ k) : FnP P w K mg base k f fd ps sp := FnOk.mono F h
theorem FnP.imp {P : Program} {w : World} {K : PySem.W.Frag} {mg : Str → Option Value} {base : Heap} {k : Nat} {f : Addr} {fd : FuncData} {ps : List Str} {sp sp' : DSp} (F : FnP P w K mg base k f fd ps sp) (h : ∀ ds M Φ Ψ, sp' ds M Φ Ψ → sp ds M Φ Ψ) : FnP P w K mg base k f fd ps sp' :=
  FnOk.imp F fun vs H Q E ⟨Z, M, ds, Φ, Ψ, a, b, c, d, e⟩ => ⟨Z, M, ds, Φ, Ψ, a, b, c, h _ _ _ _ d, e⟩
def Lt (Φ : P → Mm → Prop) : P → Mm → Prop := fun p M => ∃ M1, SubM M1 M ∧ Φ p M1
theorem SubM.refl {M : Mm} : SubM M M := fun _ _ h => h
theorem Lt.of {Φ : P → Mm → Prop} {p : P} {M : Mm} (h : Φ p M) : Lt Φ p M := ⟨M, .refl, h⟩
def startR (N : List Str) (ds : List P) : Rho := ds.map some ++ List.replicate (N.length - ds.length) none
theorem start_env {K : PySem.W.Frag} {Z : Hp} : ∀ {ds : List P} {vs : List V} {N : List Str}, IsL K Z ds vs → EnvOk K Z (startR N ds) (L2.start N vs) := fun {ds vs N} h => by
  have hl := h.length
  refine ⟨by simp [startR, L2.start, hl], fun i p e => ?_⟩
  unfold startR at e
  unfold L2.start
  by_cases hi : i < ds.length
  · rw [List.getElem?_append_left (by rw [List.length_map]; exact hi), List.getElem?_map] at e
    cases hd : ds[i]? with
    | none => rw [hd] at e; cases e
    | some q =>
      rw [hd] at e
      have eq : q = p := Option.some.inj (Option.some.inj e)
      rw [eq] at hd
      obtain ⟨v, hv, a⟩ := h.get hd
      refine ⟨v, ?_, a⟩
      rw [List.getElem?_append_left (by rw [List.length_map, ← hl]; exact hi), List.getElem?_map, hv]
      rfl
  · rw [List.getElem?_append_right (by rw [List.length_map]; omega)] at e
    by_cases hr : i - (ds.map some).length < N.length - ds.length
    · rw [List.getElem?_replicate, if_pos hr] at e
      cases e
    · rw [List.getElem?_replicate, if_neg hr] at e
      cases e
theorem passLN {X : Cx} : Passes (L2N.CX X.prog X.w) X E0 := fun _ _ _ _ _ _ _ h => by
  obtain ⟨_, _, _, _, _, _, _, _, _, _, _, _, z⟩ := h
  exact z.elim
theorem takesN {X : Cx} : L2N.Takes X (fun _ _ _ _ => False) := fun _ _ x => by
  obtain ⟨_, _, _, _, _, _, _, _, _, _, _, _, _, _, _, _, z⟩ := x
  exact z.elim
section
variable {P : Program} {w : World} {K : PySem.W.Frag} {mg : Str → Option Value} {base : Heap}
abbrev RzOf (E : XK) (Ψ : XP) : Rz := ⟨fun cls d _ H => E cls d H, fun cls fs _ M => Ψ cls fs M⟩
abbrev EndsR (Φ : NC.P → Mm → Prop) : DEnds := { nx := fun _ M => Lt Φ .non M, rt := Lt Φ }
/-- THE RULE for a def -/
theorem fnp_of {x qual : Str} {params : Arguments} {body : List Stmt} {scope : Scope} {f : Addr} {fd : FuncData} {N ps : List Str} {k : Nat} {sp : DSp} (F : FunD K x qual params body scope [] [] f fd) (S : FnScope N ps scope)
    (hbody : ∀ (cdv : Value) (A : Around) (outer : List Env) (s : Shared) (H : Hp) (E : XK) (Ψ : XP), Room k (A.deeper (envOfC qual scope s.heap.objs.size f cdv)) → L2N.Takes (cxOf (L2N.CX P w) P w K mg base N qual scope f cdv A outer s H E) (RzOf E Ψ).W →
      ∃ t, DSs (cxOf (L2N.CX P w) P w K mg base N qual scope f cdv A outer s H E) (RzOf E Ψ) body t ∧ ∀ ds M Φ, ds.length = ps.length → sp ds M Φ Ψ → t (EndsR Φ) (startR N ds) M) : FnP P w K mg base (k + 1) f fd ps sp := by
  refine F.ok (CX := L2N.CX P w) S (fun vs H Q E ⟨Z, M, ds, Φ, Ψ, a, b, c, d, e⟩ => by rw [← b.length]; exact c) fun cdv A outer s H vs Q E hr h => ?_
  obtain ⟨Z, M, ds, Φ, Ψ, st, l, hn, hsp, kp, kx⟩ := h
  have tk : L2N.Takes (cxOf (L2N.CX P w) P w K mg base N qual scope f cdv A outer s H E) (RzOf E Ψ).W := L2N.takes_of rfl rfl rfl rfl
  obtain ⟨t, ht, rd⟩ := hbody cdv A outer s H E Ψ hr tk
  obtain ⟨g, p, k1⟩ := ht.ex
  refine ⟨g, p, k1 Z _ H M (startR N ds) (EndsR Φ) _ st (start_env l) (fun cls fs d ρ1 σ1 Z1 M1 H1 s1 r1 e1 x1 q1 => kx cls fs d Z1 M1 H1 s1 r1 x1 q1) ⟨fun ρ1 σ1 Z1 M1 H1 s1 r1 e1 q1 => ?_, fun q v Z1 M1 H1 s1 r1 a1 q1 => ?_, fun ρ1 σ1 Z1 M1 H1 s1 r1 e1 q1 => q1.elim, fun ρ1 σ1 Z1 M1 H1 s1 r1 e1 q1 => q1.elim⟩ (rd ds M Φ hn hsp)⟩
  · obtain ⟨M2, sub, q⟩ := q1
    obtain ⟨s2, r2⟩ := s1.less sub
    exact kp .non .non Z1 M2 H1 s2 (r1.trans r2) rfl q
  · obtain ⟨M2, sub, q⟩ := q1
    obtain ⟨s2, r2⟩ := s1.less sub
    exact kp _ v Z1 M2 H1 s2 (r1.trans r2) a1 q
end
section
variable {X : Cx} {R : Rz}
/-! ### calls -/
def dCall (n : Nat) (sp : DSp) (Ψ : Value → List (Str × P) → Rho → Mm → Prop) (t : TDa) : TD := fun ρ M Φ => t ρ M fun ds M1 => ds.length = n ∧ sp ds M1 Φ fun cls fs M2 => Ψ cls fs ρ M2
theorem de_call {k : Nat} {f : Addr} {fd : FuncData} {ps : List Str} {sp : DSp} {x : Str} {e : Expr} {es : List Expr} {t : TDa} {p pos} (F : FnP X.prog X.w X.K X.mg X.base k f fd ps sp) (hr : Room k X.A) (hg : Gl X x) (hm : X.mg x = some (.ref f)) (hk : PySem.W.keepIn X.K (.ref f) = true)
    (hb : L2.Binds X.K fd ps []) (tk : L2N.Takes X R.W) (ha : DA X R (e :: es) t) (hdb : (x == ("__debug__" : Str)) = false := by decide) (he : starEach (e :: es) X.env = (false, eval e X.env) :: starEach es X.env := by rfl) (hpl : (backTo pos (starEach es X.env)).any (·.1) = false := by rfl) :
    DE X R (.Call (.Name x p) (e :: es) [] pos) (dCall ps.length sp R.Ψ t) := by
  obtain ⟨g1, p1, k1⟩ := ha.ex
  refine de_of (pe_callS F hr hg hm hk hb (fun σ => L2N.passAt tk σ) p1 hdb he hpl) fun Z σ H M ρ Φ Q s en l t kk => k1 Z σ H M ρ _ _ s en l t fun ds vs Z1 M1 H1 s1 r1 a1 q1 => ?_
  refine ⟨Z1, M1, ds, Φ, _, s1, a1, q1.1, q1.2, fun p v Z2 M2 H2 s2 r2 a2 q2 => kk p v Z2 M2 H2 s2 (r1.trans r2) a2 q2, fun cls fs d Z2 M2 H2 s2 r2 x2 q2 => ?_⟩
  exact l cls fs d ρ σ Z2 M2 H2 s2 (r1.trans r2) (en.mono (r1.trans r2).z) x2 q2
def dCall0 (sp : DSp) : TD := fun ρ M Φ => sp [] M Φ fun _ _ _ => False
theorem de_call0 {k : Nat} {f : Addr} {fd : FuncData} {sp : DSp} {x : Str} {p pos} (F : FnP X.prog X.w X.K X.mg X.base k f fd [] sp) (hr : Room k X.A) (hg : Gl X x) (hm : X.mg x = some (.ref f)) (hk : PySem.W.keepIn X.K (.ref f) = true)
    (hb : L2.Binds X.K fd [] []) (hdb : (x == ("__debug__" : Str)) = false := by decide) : DE X R (.Call (.Name x p) [] [] pos) (dCall0 sp) := by
  refine de_of (pe_call0 F hr hg hm hk hb .nil passLN hdb) fun Z σ H M ρ Φ Q s en l t kk => ?_
  exact ⟨Z, M, [], Φ, _, s, rfl, rfl, t, kk, fun cls fs d Z2 M2 H2 s2 r2 x2 q2 => q2.elim⟩
/-! ### raise -/
def dRaise (cls : Value) (Ψ : Value → List (Str × P) → Rho → Mm → Prop) : TSd := fun _ ρ M => Ψ cls [] ρ M
theorem ds_raise {C : Addr} {bmB : List Value} {B newId initId : String} {x m : Str} {j : Nat} {p p2 pos pos2 : Pos} (hc : X.calm = true) (tk : L2N.Takes X R.W) (F : ExcBaseFacts B newId initId bmB) (q : PySem.W.excIn X.K C bmB newId = true) (gC : X.mg x = some (.ref C)) (kC : PySem.W.keepIn X.K (.ref C) = true) (r : Raises X (.ref C)) (hg : Gl X x)
    (hdb : (x == ("__debug__" : Str)) = false := by decide) : DS X R (.Raise (some (.Call (.Name x p) [.Constant (.str m) j p2] [] pos)) none pos2) (dRaise (.ref C) R.Ψ) := by
  refine ⟨_, L2N.ps_raise hc tk (L2N.pmk_own F q gC kC r hg hdb), fun Z σ H M ρ D D' s en l k t => ?_⟩
  exact l (.ref C) [] none ρ σ Z M H s .refl en (.inl ⟨rfl, rfl⟩) t
/-- never reached -/
def dNever : TSd := fun _ _ _ => False
theorem dss_never {sts : List Stmt} : DSs X R sts dNever := ⟨_, pss_never, fun Z σ H M ρ D D' s en l k t => t.elim⟩
theorem ds_never {st : Stmt} : DS X R st dNever := ⟨_, ps_never, fun Z σ H M ρ D D' s en l k t => t.elim⟩
end
end NC

end
section
set_option Elab.async false
set_option linter.all false
set_option maxRecDepth 100000
set_option maxHeartbeats 2000000
namespace NC
open PySem PySem.Spec PyProof.Rows L2 RZ
/-! ### isinstance -/
/-- a tree's type, where it is a built-in one -/
def tyN (p : P) : Option String := match p with
  | .non => some "NoneType"
  | .bl _ => some "bool"
  | .int _ => some "int"
  | .str _ => some "str"
  | .tup _ => some "tuple"
  | .lst _ => some "list"
  | _ => none
def isi (p : P) (n : String) : Bool := match p with
  | .bl _ => n == "bool" || n == "int"
  | .int _ => n == "int"
  | .str _ => n == "str"
  | .tup _ => n == "tuple"
  | .lst _ => n == "list"
  | _ => false
abbrev five : List String := ["int", "bool", "str", "tuple", "list"]
theorem kit_five : ∀ t ∈ ["NoneType", "bool", "int", "str", "tuple", "list"], ∀ n ∈ five, kitB t n = some (if t = "bool" then (n == "bool" || n == "int") else (n == t)) := by decide +kernel
theorem isi_kit {p : P} {t n : String} (h : tyN p = some t) (hn : n ∈ five) : kitB t n = some (isi p n) := by
  cases p with
  | non => cases h; rw [kit_five _ (by decide) n hn]; simp only [List.mem_cons, List.not_mem_nil, or_false] at hn; rcases hn with rfl | rfl | rfl | rfl | rfl <;> rfl
  | bl b => cases h; rw [kit_five _ (by decide) n hn]; rfl
  | int b => cases h; rw [kit_five _ (by decide) n hn]; rfl
  | str b => cases h; rw [kit_five _ (by decide) n hn]; rfl
  | tup b => cases h; rw [kit_five _ (by decide) n hn]; rfl
  | lst b => cases h; rw [kit_five _ (by decide) n hn]; rfl
  | ref b => cases h
  | ty b => cases h
  | exn b d n => cases h
theorem tyx_of {K : PySem.W.Frag} {Z : Hp} {M : Mm} {H : Hp} {p : P} {v : V} {t : String} (s : St K Z M H) (a : Is K Z p v) (h : tyN p = some t) : TyX K H v (.type t) := by
  cases p with
  | non => cases h; have e : v = .non := a; rw [e]; exact .base .non
  | bl b => cases h; have e : v = .bl b := a; rw [e]; exact .base (.bl b)
  | int b => cases h; have e : v = .int b := a; rw [e]; exact .base (.int b)
  | str b => cases h; have e : v = .str b := a; rw [e]; exact .base (.str b)
  | tup xs =>
    cases h
    obtain ⟨b, vs, e, q, l⟩ := a
    rw [e]
    rcases seqT_same s.z q with (q | ⟨o, q⟩) | ⟨o, its, n, hk, hc, _⟩
    · exact .base (.tup q)
    · exact .fTuple q
    · exact .kTuple hk hc
  | lst xs =>
    cases h
    obtain ⟨b, vs, e, q, l⟩ := a
    rw [e]
    rcases rd_same s.z q with q | ⟨o, q⟩
    · exact .base (.lst q)
    · exact .base (.frz q)
  | ref b => cases h
  | ty b => cases h
  | exn b d n => cases h
section
variable {X : Cx} {R : Rz}
def isiW : WL := fun ps M Φ => match ps with
  | [p, .ty n] => ((tyN p).isSome = true ∧ n ∈ five) ∧ Φ (.bl (isi p n)) M
  | _ => False
theorem cd_isi : CallD X (.builtin "isinstance") isiW := by
  refine ⟨_, call_isi, fun Z M H ps vs Φ Q s a t k => ?_⟩
  match ps, t with
  | [p, .ty n], t =>
    obtain ⟨v, u, e, b1, b2⟩ := isL_two a
    have b2 : u = .ty n := b2
    obtain ⟨⟨hs, hn⟩, q⟩ := t
    obtain ⟨t, ht⟩ := Option.isSome_iff_exists.mp hs
    exact ⟨v, .ty n, .type t, .type n, isi p n, by rw [e, b2], .ty n, tyx_of s b1 ht, kit_ty (isi_kit ht hn), k _ _ Z M H s .refl (show Is X.K Z (.bl _) (.bl _) from rfl) q⟩
/-- isinstance(e, (T, U)) -/
def dIsi2 (n m : String) (te : TD) : TD := fun ρ M Φ => te ρ M fun p M1 => (tyN p).isSome = true ∧ Φ (.bl (isi p n || isi p m)) M1
theorem de_isi2 {e a b : Expr} {te : TD} {n m : String} {p pos p2 : Pos} {kk : Nat} (he : DE X R e te) (ha : PE X a (tC (.ty n))) (hb : PE X b (tC (.ty m))) (hn : n ∈ five) (hm2 : m ∈ five) (hg : Gl X "isinstance") (hm : X.mg "isinstance" = none)
    (hs0 : starEach [a, b] X.env = (false, eval a X.env) :: starEach [b] X.env := by rfl) (hs1 : starEach [b] X.env = (false, eval b X.env) :: starEach [] X.env := by rfl)
    (hs2 : starEach [e, .Tuple [a, b] kk p2] X.env = (false, eval e X.env) :: starEach [.Tuple [a, b] kk p2] X.env := by rfl) (hs3 : starEach [.Tuple [a, b] kk p2] X.env = (false, eval (.Tuple [a, b] kk p2) X.env) :: starEach [] X.env := by rfl)
    (hpl : (backTo pos (starEach [.Tuple [a, b] kk p2] X.env)).any (·.1) = false := by rfl) :
    DE X R (.Call (.Name "isinstance" p) [e, .Tuple [a, b] kk p2] [] pos) (dIsi2 n m te) := by
  obtain ⟨g1, p1, k1⟩ := he.ex
  have pt : PE X (.Tuple [a, b] kk p2) (tTup (tCons (tC (.ty n)) (tCons (tC (.ty m)) tNil))) := pe_tup (pa_cons ha (pa_cons hb pa_nil hs1) hs0)
  have hp : PE X (.Call (.Name "isinstance" p) [e, .Tuple [a, b] kk p2] [] pos) _ := pe_callB call_isiT hg hm (by decide +kernel) (pa_cons p1 (pa_cons pt pa_nil hs3) hs2) (by decide) (by decide) hs2 hpl
  refine de_of hp fun Z σ H M ρ Φ Q s en l t k => k1 Z σ H M ρ _ _ s en l t fun q v Z1 M1 H1 s1 r1 a1 q1 => ?_
  refine ⟨(by show 2 ≤ sizeLine; decide), fun c hc => ?_⟩
  obtain ⟨s2, r2⟩ := s1.tmp (o := .tup [.ty n, .ty m]) hc
  obtain ⟨t, ht⟩ := Option.isSome_iff_exists.mp q1.1
  refine ⟨v, c, [.ty n, .ty m], .type t, [.type n, .type m], isi q n || isi q m, rfl, upd_same, .cons (.ty n) (.cons (.ty m) .nil), tyx_of s2 a1 ht, ?_, k _ _ Z1 M1 _ s2 (r1.trans r2) (show Is X.K Z1 (.bl _) (.bl _) from rfl) q1.2⟩
  have k1 : PySem.W.kitOne X.K (.type t) (.type n) = some (isi q n) := kit_ty (isi_kit ht hn)
  have k2 : PySem.W.kitOne X.K (.type t) (.type m) = some (isi q m) := kit_ty (isi_kit ht hm2)
  refine kitAny_cons (b := isi q n) k1 (fun e => ?_) (fun e => by rw [e]; rfl)
  rw [e]
  exact kitAny_cons (b := isi q m) k2 (fun e => by rw [e]; exact kitAny_nil) (fun e => by rw [e]; rfl)
/-! ### in, not in: flat items -/
def flatP (p : P) : Bool := match p with
  | .non => true
  | .bl _ => true
  | .int _ => true
  | .str _ => true
  | _ => false
theorem flat_v {K : PySem.W.Frag} {Z : Hp} {p : P} {v : V} (a : Is K Z p v) (f : flatP p = true) : flatV v = true := by
  cases p <;> first | (cases f; done) | (cases (show v = _ from a); rfl)
theorem flats_v {K : PySem.W.Frag} {Z : Hp} : ∀ {ps : List P} {vs : List V}, IsL K Z ps vs → ps.all flatP = true → vs.all flatV = true
  | [], vs, h, _ => by
    have e : vs = [] := h
    rw [e]; rfl
  | x :: xs, vs, h, f => by
    obtain ⟨v, r, e, a, l⟩ := h
    rw [List.all_cons, Bool.and_eq_true] at f
    rw [e, List.all_cons, flat_v a f.1, flats_v l f.2]
    rfl
theorem eqV_peq {K : PySem.W.Frag} {Z : Hp} {p q : P} {x y : V} (a : Is K Z p x) (b : Is K Z q y) (f : flatP p = true) (g : flatP q = true) : eqV x y = peq p q := by
  cases p <;> first | (cases f; done) | skip
  all_goals (cases (show x = _ from a))
  all_goals (cases q <;> first | (cases g; done) | skip)
  all_goals (cases (show y = _ from b))
  all_goals (first | (simp [eqV, peq]; done) | (simp only [eqV, peq]; exact Bool.beq_eq_decide_eq _ _))
def pin (p : P) (xs : List P) : Bool := xs.any fun y => peq y p
theorem inV_pin {K : PySem.W.Frag} {Z : Hp} {p : P} {x : V} (a : Is K Z p x) (f : flatP p = true) : ∀ {ps : List P} {vs : List V}, IsL K Z ps vs → ps.all flatP = true → inV x vs = pin p ps
  | [], vs, h, _ => by
    have e : vs = [] := h
    rw [e]; rfl
  | y :: ys, vs, h, g => by
    obtain ⟨v, r, e, b, l⟩ := h
    rw [List.all_cons, Bool.and_eq_true] at g
    have ih := inV_pin a f l g.2
    unfold inV pin at ih ⊢
    rw [e, List.any_cons, List.any_cons, ih, eqV_peq b a g.1 f]
def inW (neg : Bool) : W2 := fun p q M Φ => sqW q M fun xs => (flatP p = true ∧ xs.all flatP = true) ∧ Φ (.bl (if neg then !pin p xs else pin p xs)) M
theorem opd_in : OpD X (compareOp .In) (inW false) := by
  refine ⟨_, op_in_seq, fun Z M H p q x y Φ Q s a b t k => ?_⟩
  obtain ⟨xs, c, vs, ⟨⟨f, g⟩, q⟩, ex, hq, l⟩ := sq_of s b t
  refine ⟨c, vs, ex, hq, flat_v a f, flats_v l g, ?_⟩
  rw [inV_pin a f l g]
  exact k _ _ Z M H s .refl (show Is X.K Z (.bl _) (.bl _) from rfl) q
theorem opd_notin : OpD X (compareOp .NotIn) (inW true) := by
  refine ⟨_, op_notIn_seq, fun Z M H p q x y Φ Q s a b t k => ?_⟩
  obtain ⟨xs, c, vs, ⟨⟨f, g⟩, q⟩, ex, hq, l⟩ := sq_of s b t
  refine ⟨c, vs, ex, hq, flat_v a f, flats_v l g, ?_⟩
  rw [inV_pin a f l g]
  exact k _ _ Z M H s .refl (show Is X.K Z (.bl _) (.bl _) from rfl) q
end
end NC

end
section
set_option Elab.async false
set_option linter.all false
set_option maxRecDepth 100000
set_option maxHeartbeats 2000000
namespace NC
open PySem PySem.Spec PyProof.Rows L2 RZ
/-! ### defs by name -/
/-- a def of the text, as it stands behind the top -/
def Fd (K : PySem.W.Frag) (mg : Str → Option Value) (x : Str) (st : Stmt) : Prop :=
  ∃ f fd, FunD K x x (defArgs st) (defBody st) (defScope st) [] [] f fd ∧ mg x = some (.ref f)
/-- a def that keeps a promise -/
def Fx (P : Program) (w : World) (K : PySem.W.Frag) (mg : Str → Option Value) (base : Heap) (k : Nat) (x : Str) (ps : List Str) (sp : DSp) : Prop :=
  ∃ f fd, FnP P w K mg base k f fd ps sp ∧ mg x = some (.ref f) ∧ PySem.W.keepIn K (.ref f) = true ∧ L2.Binds K fd ps []
section
variable {P : Program} {w : World} {K : PySem.W.Frag} {mg : Str → Option Value} {base : Heap}
theorem Fx.mono {j k : Nat} {x : Str} {ps : List Str} {sp : DSp} (F : Fx P w K mg base j x ps sp) (h : j ≤ k) : Fx P w K mg base k x ps sp :=
  let ⟨f, fd, a, b⟩ := F; ⟨f, fd, a.mono h, b⟩
theorem Fx.imp {k : Nat} {x : Str} {ps : List Str} {sp sp' : DSp} (F : Fx P w K mg base k x ps sp) (h : ∀ ds M Φ Ψ, sp' ds M Φ Ψ → sp ds M Φ Ψ) : Fx P w K mg base k x ps sp' :=
  let ⟨f, fd, a, b⟩ := F; ⟨f, fd, a.imp h, b⟩
/-- THE RULE: from the def as it stands, its names, how its arguments bind, its body -/
theorem fx_of {x : Str} {st : Stmt} {N ps : List Str} {k : Nat} {sp : DSp} (D : Fd K mg x st) (S : FnScope N ps (defScope st))
    (hb : ∀ (kV doc pm : Value) (an : Option Addr) (cdv ct : Value) (us : List Value), us.length = ps.length → bindArgs (PySem.W.fnOf x x (defArgs st) (defBody st) (defScope st) .none kV doc pm an cdv ct) ⟨us, []⟩ = pure (ps.zip us))
    (hbody : ∀ (f : Addr) (cdv : Value) (A : Around) (outer : List Env) (s : Shared) (H : Hp) (E : XK) (Ψ : XP), Room k (A.deeper (envOfC x (defScope st) s.heap.objs.size f cdv)) → L2N.Takes (cxOf (L2N.CX P w) P w K mg base N x (defScope st) f cdv A outer s H E) (RzOf E Ψ).W →
      ∃ t, DSs (cxOf (L2N.CX P w) P w K mg base N x (defScope st) f cdv A outer s H E) (RzOf E Ψ) (defBody st) t ∧ ∀ ds M Φ, ds.length = ps.length → sp ds M Φ Ψ → t (EndsR Φ) (startR N ds) M) : Fx P w K mg base (k + 1) x ps sp := by
  obtain ⟨f, fd, F, hm⟩ := D
  exact ⟨f, fd, fnp_of F S (hbody f), hm, F.kp, F.bindsN hb⟩
end
section
variable {X : Cx} {R : Rz}
theorem de_callF {k : Nat} {ps : List Str} {sp : DSp} {x : Str} {e : Expr} {es : List Expr} {t : TDa} {p pos} (F : Fx X.prog X.w X.K X.mg X.base k x ps sp) (hr : Room k X.A) (hg : Gl X x)
    (tk : L2N.Takes X R.W) (ha : DA X R (e :: es) t) (hdb : (x == ("__debug__" : Str)) = false := by decide) (he : starEach (e :: es) X.env = (false, eval e X.env) :: starEach es X.env := by rfl) (hpl : (backTo pos (starEach es X.env)).any (·.1) = false := by rfl) :
    DE X R (.Call (.Name x p) (e :: es) [] pos) (dCall ps.length sp R.Ψ t) := by
  obtain ⟨f, fd, F1, hm, hk, hb⟩ := F
  exact de_call F1 hr hg hm hk hb tk ha hdb he hpl
theorem de_callF0 {k : Nat} {sp : DSp} {x : Str} {p pos} (F : Fx X.prog X.w X.K X.mg X.base k x [] sp) (hr : Room k X.A) (hg : Gl X x) (hdb : (x == ("__debug__" : Str)) = false := by decide) : DE X R (.Call (.Name x p) [] [] pos) (dCall0 sp) := by
  obtain ⟨f, fd, F1, hm, hk, hb⟩ := F
  exact de_call0 F1 hr hg hm hk hb hdb
/-- a module's whole number -/
theorem de_gint {x : Str} {i : Int} {pos : Pos} (hg : Gl X x) (hm : ∃ t, X.mg x = some (.int i t)) (hd : (x == ("__debug__" : Str)) = false := by decide) : DE X R (.Name x pos) (dC (.int i)) := by
  obtain ⟨t, hm⟩ := hm
  exact de_cst (pe_glob (v := .int i) hg hm ⟨t, rfl⟩ hd) fun _ => rfl
theorem de_gty {x : Str} {n : String} {pos : Pos} (hg : Gl X x) (hm : X.mg x = none) (hv : bootBuiltins x = some (.type n)) (hn : x ≠ "__name__" := by decide) (hd : (x == ("__debug__" : Str)) = false := by decide) : DE X R (.Name x pos) (dC (.ty n)) :=
  de_cst (pe_bltn (v := .ty n) hg hm hv rfl hn hd) fun _ => rfl
end
/-- an own exception of the module, without an __init__ -/
structure Exo (K : PySem.W.Frag) (mg : Str → Option Value) (x : Str) (C : Addr) : Prop where
  g : mg x = some (.ref C)
  e : PySem.W.excIn K C He.veBase "ValueError.__new__" = true
  k : PySem.W.keepIn K (.ref C) = true
  b : PySem.W.subIn K (.ref C) (.type "BaseException") = some true
  t : PySem.W.typeIn K (.ref C) = some (.type "type")
theorem ds_raiseO {X : Cx} {R : Rz} {C : Addr} {x m : Str} {j : Nat} {p p2 pos pos2 : Pos} (T : Exo X.K X.mg x C) (hc : X.calm = true) (tk : L2N.Takes X R.W) (hg : Gl X x)
    (hdb : (x == ("__debug__" : Str)) = false := by decide) : DS X R (.Raise (some (.Call (.Name x p) [.Constant (.str m) j p2] [] pos)) none pos2) (dRaise (.ref C) R.Ψ) :=
  ds_raise hc tk PySem.F.excBase_ValueError T.e T.g T.k (raises_own T.b T.t) hg hdb
end NC

end
section
set_option Elab.async false
set_option linter.all false
set_option maxRecDepth 100000
set_option maxHeartbeats 4000000
namespace NcT
open PySem PyProof.Rows
section
variable {prog : Program} {w : World} {A : Around} {E : Value → Shared → Prop} {s : Shared}
/-! ### t[::-1] of a tuple -/
theorem places_rev (n : Nat) : Builtin.Slice.slicePlaces ((n : Int) - 1) (-1) (-1) = n := by
  unfold Builtin.Slice.slicePlaces
  have h1 : ¬ ((-1 : Int) > 0) := by omega
  simp only [h1, if_false]
  have e : (- -1 : Int) = 1 := by decide
  rw [e, Int.ediv_one]
  split <;> omega
theorem applied_rev {sl : Addr} {vl vu vs : Value} {n : Nat} {Q : Int × Int × Nat → Shared → Prop} (hs : s.heap.IsSliceOf sl vl vu vs) (pl : IsPart vl none) (pu : IsPart vu none) (ps : IsPart vs (some (-1)))
    (h : Q ((n : Int) - 1, -1, n) s) : wpAny (model prog w) A (Builtin.Slice.sliceApplied (.ref sl) (pure (n : Int))) Q E s := by
  obtain ⟨os, hos, hcs, hds⟩ := id hs
  unfold Builtin.Slice.sliceApplied Builtin.Slice.sliceFields
  refine wpAny_bind (wpAny_bind (wpAny_field hos hds (x := vl) rfl (wpAny_bind (wpAny_field hos hds (x := vu) rfl (wpAny_bind (wpAny_field hos hds (x := vs) rfl (wpAny_pure ?_)))))))
  refine wpAny_bind (HT.slicePart_ ps ?_)
  show wpAny _ _ (if ((-1 : Int) == 0) = true then _ else _) _ _ s
  rw [if_neg (by decide)]
  refine wpAny_bind (HT.slicePart_ pl (wpAny_bind (HT.slicePart_ pu (wpAny_bind (wpAny_pure ?_)))))
  show wpAny _ _ (pure ((n : Int) - 1, (-1 : Int), Builtin.Slice.slicePlaces ((n : Int) - 1) (-1) (-1))) _ _ s
  rw [places_rev]
  exact wpAny_pure h
theorem pick_rev (xs : Array Value) : ((List.range xs.size).filterMap fun (m : Nat) => xs[((xs.size : Int) - 1 + (m : Int) * (-1)).toNat]?).toArray = xs.toList.reverse.toArray := by
  have e : (fun (m : Nat) => xs[((xs.size : Int) - 1 + (m : Int) * (-1)).toNat]?) = (fun k => xs[k]?) ∘ fun (m : Nat) => ((xs.size : Int) - 1 + (m : Int) * (-1)).toNat := rfl
  rw [e, ← List.filterMap_map]
  have e2 : (List.range xs.size).map (fun m : Nat => ((xs.size : Int) - 1 + (m : Int) * (-1)).toNat) = (List.range xs.size).map fun k => xs.size - 1 - k := by
    apply List.map_congr_left
    intro k hk
    have := List.mem_range.mp hk
    omega
  rw [e2, PySem.W.krv_range, List.filterMap_reverse, PySem.W.krv_all]
theorem getItem_tuple_rev {t sl : Addr} {items : Array Value} {vl vu vs : Value} {Q : Value → Shared → Prop} (ht : IsTup s.heap t items) (hs : s.heap.IsSliceOf sl vl vu vs) (pl : IsPart vl none) (pu : IsPart vu none) (ps : IsPart vs (some (-1)))
    (h : Q (.ref s.heap.objs.size) { s with heap := s.heap.push { cls := .type "tuple", data := .seq items.toList.reverse.toArray } })
    (hsz : items.size ≤ sizeLine) : wpAny (model prog w) A (getItem (.ref t) (.ref sl)) Q E s := by
  have htake : sizeOk (.seq items.toList.reverse.toArray) := by
    show items.toList.reverse.toArray.size ≤ sizeLine
    rw [List.size_toArray, List.length_reverse, Array.length_toList]
    omega
  obtain ⟨os, hos, hcs, hds⟩ := id hs
  have hTs : s.TypeIs (.ref sl) "slice" := ⟨os, hos, hcs⟩
  unfold getItem
  try with_reducible refine wpAny_holding ?_
  first | refine wpAny_bind (wpAny_pure ?_) | skip
  refine wpAny_bind (wpAny_sequenceKey ht.typeIs (by decide) ?_)
  refine wpAny_bind (wpAny_callSpecial?_slot (name := Str.ofString "__getitem__") ht.typeIs PyProof.Rows.slot_tuple_getitem
    (wpAny_call_entry PyProof.Rows.slot_tuple_getitem ht.typeIs entry_tuple_getitem ?_ (args_tuple_getitem _ _)))
  show wpAny _ _ (Builtin.Tuple.tupleItemsOf (.ref t) >>= _) _ _ s
  refine wpAny_bind (tupleItemsOf_ ht ?_)
  refine wpAny_bind (wpAny_typeOf hTs ?_)
  rw [if_pos (by decide)]
  refine wpAny_bind (applied_rev hs pl pu ps ?_)
  have hno : ¬ ((((items.size : Int) - 1) == 0 && (-1 : Int) == 1 && items.size == items.size) = true) := by
    rw [show ((-1 : Int) == 1) = false by decide, Bool.and_false, Bool.false_and]
    exact Bool.false_ne_true
  show wpAny _ _ (if (((items.size : Int) - 1) == 0 && (-1 : Int) == 1 && items.size == items.size) = true then _ else _) _ _ s
  rw [if_neg hno, pick_rev]
  first
    | exact wpAny_bind (m := Builtin.Tuple.tupleExact _) (wpAny_newObj_type (wpAny_pure ⟨_, rfl, wpAny_pure h⟩) htake)
    | exact wpAny_bind (m := Builtin.Tuple.tupleExact _) (wpAny_newObj_type (wpAny_bind (wpAny_pure (wpAny_pure ⟨_, rfl, wpAny_pure h⟩))) htake)
    | exact wpAny_bind (wpAny_bind (m := Builtin.Tuple.tupleExact _) (wpAny_newObj_type (wpAny_pure (wpAny_pure ⟨_, rfl, wpAny_pure h⟩)) htake))
    | exact wpAny_bind (wpAny_bind (m := Builtin.Tuple.tupleExact _) (wpAny_newObj_type (wpAny_pure ⟨_, rfl, wpAny_pure h⟩) htake))
/-! ### enumerate(tuple) -/
theorem meets_enumerate_newT (l : Addr) (items : Array Value) :
    Meets (Builtin.«enumerate.__new__» ⟨[.type "enumerate", .ref l], []⟩) (fun _ R s => s.heap.IsTuple l items ∧
      R (.ok (.ret (.ref (s.heap.push { cls := .type "tuple_iterator", data := .fields #[.ref l, .int 0 0] }).objs.size)))
        { s with heap := (s.heap.push { cls := .type "tuple_iterator", data := .fields #[.ref l, .int 0 0] }).push { cls := .type "enumerate", data := .fields #[.none, .bool false, .ref s.heap.objs.size, rawInt 0, .none, .none] } }) :=
  .of_wp fun prog w A R s h => by
    obtain ⟨hp, g, d, tk, os⟩ := s; obtain ⟨hL, h⟩ := h
    have hsub := sub_enumerate
    have q1 : ∀ {A' : Around} {E : Value → Shared → Prop} {Q : Value → Shared → Prop}, Q (.ref hp.objs.size) ⟨(hp.push { cls := .type "tuple_iterator", data := .fields #[.ref l, .int 0 0] }), g, d, tk, os⟩ → wpAny (model prog w) A' (pyIter (.ref l)) Q E ⟨hp, g, d, tk, os⟩ :=
      fun q => wpAny_pyIter_tuple hL q
    wp_walk using q1
    refine wpAny_stack_any fun st => wpAny_pure ?_
    split
    · rename_i c _ _ _ _ _
      cases (c == Value.type "enumerate")
      · wp_walk using q1
        exact ⟨_, rfl, h⟩
      · wp_walk using q1
        exact ⟨_, rfl, h⟩
    · wp_walk using q1
      exact ⟨_, rfl, h⟩
theorem call_enumerate_tuple {l : Addr} {items : Array Value} {Q : Value → Shared → Prop} (hL : s.heap.IsTuple l items)
    (h : ∀ h', IsEnum h' (s.heap.objs.size + 1) s.heap.objs.size 0 .none → h'.IsTupleIter s.heap.objs.size l 0 → h'.objs.size = s.heap.objs.size + 2 →
      (∀ b o, s.heap.get? b = some o → h'.get? b = some o) → Q (.ref (s.heap.objs.size + 1)) { s with heap := h' }) :
    wpAny (model prog w) A (call (.type "enumerate") [.ref l]) Q E s := by
  refine callType_new F.called_enumerate (by decide) (F.typeCall_enumerate_1 _) (F.newCall_enumerate_1 _) (fun obj => F.args_object_init_2 obj _) F.entry_enumerate_new
    (meets_enumerate_newT l items) ⟨hL, ?_⟩
  have hz : (s.heap.push { cls := .type "tuple_iterator", data := .fields #[.ref l, .int 0 0] }).objs.size = s.heap.objs.size + 1 := Heap.size_push ..
  show _ ∧ _
  rw [hz]
  have he : IsEnum ((s.heap.push { cls := .type "tuple_iterator", data := .fields #[.ref l, .int 0 0] }).push
      { cls := .type "enumerate", data := .fields #[.none, .bool false, .ref s.heap.objs.size, rawInt 0, .none, .none] }) (s.heap.objs.size + 1) s.heap.objs.size 0 .none := by
    have := Heap.get?_push_size (s.heap.push { cls := .type "tuple_iterator", data := .fields #[.ref l, .int 0 0] })
      (o := { cls := .type "enumerate", data := .fields #[.none, .bool false, .ref s.heap.objs.size, rawInt 0, .none, .none] }) rfl
    rw [hz] at this; exact this
  refine ⟨⟨_, he, rfl⟩, h _ he ⟨_, Heap.get?_push_of_some _ (Heap.get?_push_size _ rfl), rfl, rfl⟩ (by rw [Heap.size_push, hz]) fun b o x => Heap.get?_push_of_some _ (Heap.get?_push_of_some _ x)⟩
end
end NcT
namespace NC
open PySem PySem.Spec PyProof.Rows L2 RZ
/-! ### enumerate of a list, of a tuple -/
def IteT (K : PySem.W.Frag) (a : Addr) : It :=
  ⟨fun i H => ∃ (xs : List V) (x : V), SqT K H a xs ∧ xs[i]? = some x, fun i H v H' => ∃ T x, v = .ref T ∧ H T = none ∧ H' = upd H T (.tup [.int (i : Nat), x]) ∧ ∀ xs, SqT K H a xs → xs[i]? = some x, fun i H => ∃ xs : List V, SqT K H a xs ∧ xs.length ≤ i⟩
theorem turn_enumT {P : Program} {w : World} {K : PySem.W.Frag} {elts : List Expr} {kk : Nat} {tpos : Pos} (a e it : Addr) (hae : a ≠ e) (hai : a ≠ it) :
    Turn P w K (.Tuple elts kk tpos) (IteT K a) [e, it] e (fun i h => (∃ old, IsEnum h e it ((i : Nat) : Int) old) ∧ h.IsTupleIter it a i ∧ e ≠ it) where
  mem := by simp
  obj := fun i h st b hb => by
    obtain ⟨⟨old, he⟩, ⟨o, ho, hc, hd⟩, _⟩ := st
    have e' : b = e ∨ b = it := by simpa using hb
    rcases e' with z | z
    · rw [z]; exact ⟨_, he, fun v q => nomatch q⟩
    · rw [z]; exact ⟨o, ho, fun v q => by rw [hd] at q; cases q⟩
  keep := fun i h h' st k => let ⟨⟨old, he⟩, hi, hne⟩ := st; ⟨⟨old, k e (by simp) _ he⟩, hi.at fun o q => k it (by simp) o q, hne⟩
  item := by
    intro X hP hw hK hc i pins s σ H E I hf st hg
    subst hP hw hK
    obtain ⟨⟨old, he⟩, hit, hne⟩ := st
    obtain ⟨xs, x, hq, hx⟩ := hg
    obtain ⟨its, rv, p, hz⟩ := I.tuple hq
    obtain ⟨u, hu, ru⟩ := rv.get hx
    have hel : e < s.heap.objs.size := Heap.lt_size he
    have hil : it < s.heap.objs.size := by obtain ⟨_, q, _⟩ := hit; exact Heap.lt_size q
    have D := Draws.tuple (prog := X.prog) (w := X.w) (A := X.A.in1) (I.ok.hd hc) it a hai its.toArray
    have hlt : i < its.toArray.size := by
      have := (List.getElem?_eq_some_iff.mp hu).1
      simpa using this
    refine wpAny_pyNext_enum_itemD D he ⟨hit, p⟩ hlt hne (by simp [hne, Ne.symm hae]) fun x' h' tk hx' ho hst' hT hsz hk => ?_
    obtain ⟨hit', _⟩ := hst'
    have ex' : x' = u := by
      have h1 : its.toArray[i]? = some x' := hx'
      have h2 : its.toArray[i]? = some u := by simpa using hu
      rw [h2] at h1
      exact (Option.some.inj h1).symm
    subst ex'
    refine ⟨_, rfl, wpAny_letOwnedTupleGo_enum (s := { s with heap := h', toks := tk + 1 }) ho fun h'' he' sb => ?_⟩
    have hT2 : h''.get? s.heap.objs.size = some { cls := .type "tuple", data := .seq #[.int i tk, x'] } := (sb.2 _ (Nat.ne_of_gt hel)).trans hT
    have new : ObjOk X.prog X.w (upd H s.heap.objs.size (.tup [.int (i : Nat), x])) h'' s.heap.objs.size (.tup [.int (i : Nat), x]) :=
      ⟨by show 2 ≤ sizeLine; decide, [.int i tk, x'], .cons ⟨_, rfl⟩ (.cons ru .nil), ⟨_, hT2, rfl, _, rfl⟩⟩
    have I1 : Inv X pins σ (upd H s.heap.objs.size (.tup [.int (i : Nat), x])) { s with heap := h'', toks := tk + 1 } :=
      I.turnedNew (ch := [e, it]) (fun b ob hb q => (sb.2 b (fun z => hb (by simp [z]))).trans (hk b ob (fun z => hb (by simp [z])) (fun z => hb (by simp [z])) q)) hf (Nat.le_refl _) new
    refine ⟨.ref s.heap.objs.size, _, I1, rfl, ⟨_, x, rfl, I.hok.fresh (Nat.le_refl _), rfl, fun ys hy => by rw [I.tuple_inj hy hq]; exact hx⟩, ⟨⟨x', ?_⟩, hit'.at fun o q => (sb.2 it (Ne.symm hne)).trans q, hne⟩, fun b hb => ?_⟩
    · have e1 : ((i + 1 : Nat) : Int) = (i : Int) + 1 := by omega
      rw [e1]; exact he'
    · have hb' : b < s.heap.objs.size := by
        have e' : b = e ∨ b = it := by simpa using hb
        rcases e' with z | z
        · rw [z]; exact hel
        · rw [z]; exact hil
      rw [upd_ne (Nat.ne_of_lt hb')]
      exact (hf b hb).1
  done := by
    intro X hP hw hK hc i pins s σ H E I hf st hg
    subst hP hw hK
    obtain ⟨⟨old, he⟩, hit, hne⟩ := st
    obtain ⟨xs, hq, hx⟩ := hg
    obtain ⟨its, rv, p, hz⟩ := I.tuple hq
    obtain ⟨f0, f1, f2, f3, f4, f5⟩ := hf it (by simp)
    have hl := rv.length
    unfold pyNext
    have hT : s.TypeIs (.ref e) "enumerate" := ⟨_, he, rfl⟩
    refine wpAny_bind (wpAny_attempt (wpAny_callSpecial?_slot (name := Str.ofString "__next__") hT F.slot_enumerate_next
      (wpAny_call_entry F.slot_enumerate_next hT F.entry_enumerate_next ?_ (F.args_enumerate_next_1 _))))
    show wpAny _ _ (field (.ref e) 2 >>= _) _ _ _
    refine wpAny_bind (wpAny_field he rfl (x := .ref it) rfl ?_)
    refine wpAny_bind (RZ.nextOf_tuple_end (I.ok.hd hc) hit (show s.heap.IsTuple a its.toArray from p) (by simp; omega) fun h' x he' hx' => ?_)
    obtain ⟨o, ho, hc⟩ := hx'
    refine wpAny_bind (wpAny_isInstance (T := "StopIteration") (b := true) ⟨o, ho, hc⟩ isSubtype_stop ?_)
    exact wpAny_pure ⟨rfl, I.turned (t' := s.toks) (fun b o hb q => he' b o hb q) f0 f1 f3 f4 f5⟩
  self := fun A i s Q E st h => let ⟨⟨_, he⟩, _⟩ := st; wpAny_pyIter_enum he h
def iEnumA (K : PySem.W.Frag) (ta : TA) : TI := fun σ H R => ta σ H fun vs H1 => ∃ a xs, vs = [.ref a] ∧ ((SqL K H1 a xs ∧ R (Ite K a) H1) ∨ (SqT K H1 a xs ∧ R (IteT K a) H1))
theorem pi_enumA {X : Cx} {e : Expr} {ta : TA} {p pos tpos : Pos} {elts : List Expr} {kk : Nat} (hg : Gl X "enumerate") (hm : X.mg "enumerate" = none) (ha : PA X [e] ta) (hs : starEach [e] X.env = [(false, eval e X.env)] := by rfl) :
    PI X (.Tuple elts kk tpos) (.Call (.Name "enumerate" p) [e] [] pos) (iEnumA X.K ta) := by
  refine ⟨fun pins s σ H R I h => ?_⟩
  refine Call_ (ld_blt I hg hm boot_enumerate (PyProof.Rows.callWith_type1 (thn (ha.run pos pins s σ H _ I h) fun us s1 ⟨vs, H1, I1, r1, q1⟩ => ?_) hs rfl))
  obtain ⟨a, xs, ex, q1⟩ := q1
  subst ex
  cases r1 with
  | cons r rr =>
    cases rr
    cases r
    have fr : ∀ b ∈ [s1.heap.objs.size + 1, s1.heap.objs.size], FpOk X pins H1 b := fun b hb => by
      have e' : b = s1.heap.objs.size + 1 ∨ b = s1.heap.objs.size := by simpa using hb
      have hle : s1.heap.objs.size ≤ b := by
        rcases e' with z | z
        · rw [z]; exact Nat.le_add_right _ _
        · rw [z]; exact Nat.le_refl _
      exact I1.fpOk hle (I1.hok.fresh hle)
    rcases q1 with ⟨hq, q⟩ | ⟨hq, q⟩
    · obtain ⟨its, rv, p', hz⟩ := I1.list hq
      refine call_enumerate_list p'.isList fun h' he hit hsz hk => wpAny_pyIter_enum he ?_
      have I2 : Inv X pins σ H1 { s1 with heap := h' } := I1.kept (t' := s1.toks) hk
      exact ⟨s1.heap.objs.size + 1, [s1.heap.objs.size + 1, s1.heap.objs.size], _, _, H1, rfl, I2, turn_enum a (s1.heap.objs.size + 1) s1.heap.objs.size, ⟨⟨.none, he⟩, hit, Nat.succ_ne_self _⟩, fr, q⟩
    · obtain ⟨its, rv, p', hz⟩ := I1.tuple hq
      obtain ⟨o1, ho1, _⟩ := id p'
      have hlt := Heap.lt_size ho1
      refine NcT.call_enumerate_tuple (show s1.heap.IsTuple a its.toArray from p') fun h' he hit hsz hk => wpAny_pyIter_enum he ?_
      have I2 : Inv X pins σ H1 { s1 with heap := h' } := I1.kept (t' := s1.toks) hk
      exact ⟨s1.heap.objs.size + 1, [s1.heap.objs.size + 1, s1.heap.objs.size], _, _, H1, rfl, I2, turn_enumT a (s1.heap.objs.size + 1) s1.heap.objs.size (Nat.ne_of_lt (Nat.lt_succ_of_lt hlt)) (Nat.ne_of_lt hlt), ⟨⟨.none, he⟩, hit, Nat.succ_ne_self _⟩, fr, q⟩
def iSeqA (K : PySem.W.Frag) (tl : TE) : TI := fun σ H R => tl σ H fun x H1 => ∃ a xs, x = .ref a ∧ ((SqL K H1 a xs ∧ R (Itl K a) H1) ∨ (SqT K H1 a xs ∧ R (Itt K a) H1))
theorem pi_seqA {X : Cx} {tg l : Expr} {tl : TE} (hl : PE X l tl) : PI X tg l (iSeqA X.K tl) := by
  refine ⟨fun pins s σ H R I h => ?_⟩
  refine thn (hl.run pins s σ H _ I h) fun v s1 ⟨x, H1, I1, r1, q1⟩ => ?_
  obtain ⟨a, xs, e, q1⟩ := q1
  subst e
  cases r1
  have fr : ∀ b ∈ [s1.heap.objs.size], FpOk X pins H1 b := fun b hb => by
    have e : b = s1.heap.objs.size := by simpa using hb
    subst e
    exact I1.fpOk (Nat.le_refl _) (I1.hok.fresh (Nat.le_refl _))
  rcases q1 with ⟨hq, q⟩ | ⟨hq, q⟩
  · obtain ⟨its, rv, p, hz⟩ := I1.list hq
    refine wpAny_pyIter_list p.isList ?_
    exact ⟨s1.heap.objs.size, [s1.heap.objs.size], _, _, H1, rfl, I1.kept (t' := s1.toks) fun b o e => Heap.get?_push_of_some _ e, turn_list a _, ⟨_, Heap.get?_push_size _ rfl, rfl, rfl⟩, fr, q⟩
  · obtain ⟨its, rv, p, hz⟩ := I1.tuple hq
    refine wpAny_pyIter_tuple (show s1.heap.IsTuple a its.toArray from p) ?_
    exact ⟨s1.heap.objs.size, [s1.heap.objs.size], _, _, H1, rfl, I1.kept (t' := s1.toks) fun b o e => Heap.get?_push_of_some _ e, turn_tuple a _, ⟨_, Heap.get?_push_size _ rfl, rfl, rfl⟩, fr, q⟩
/-- xs[::-1] -/
def tRevA (K : PySem.W.Frag) (te : TE) : TE := fun σ H Q => te σ H fun x H1 => ∃ a xs, x = .ref a ∧ ((SqL K H1 a xs ∧ ∀ p, H1 p = none → Q (.ref p) (upd H1 p (.lst xs.reverse))) ∨ (SqT K H1 a xs ∧ ∀ p, H1 p = none → Q (.ref p) (upd H1 p (.tup xs.reverse))))
theorem pe_revA {X : Cx} {e : Expr} {te : TE} {k : Nat} {p1 p2 p3 pos : Pos} (he : PE X e te) : PE X (.Subscript e (.Slice none none (some (.UnaryOp .USub (.Constant (.int 1) k p1) p2)) p3) pos) (tRevA X.K te) := by
  refine ⟨fun pins s σ H Q I h => ?_⟩
  refine Subscript_ (thn (he.run pins s σ H _ I h) fun v s1 ⟨x, H1, I1, r1, q1⟩ => ?_)
  obtain ⟨a, xs, ex, q1⟩ := q1
  subst ex
  cases r1
  have hst : PO X (some (.UnaryOp .USub (.Constant (.int 1) k p1) p2)) (tPart (tUn (rU fun i => .int (-i)) (tC (.int 1)))) := po_some (pe_un un_neg pe_int)
  refine wpAny_Slice (thn (po_none.run pins s1 σ H1 (fun o H2 => o = none ∧ H2 = H1) I1 ⟨rfl, rfl⟩) fun vl s2 ⟨l, H2, I2, pl, el, e2⟩ => ?_)
  subst el e2
  refine thn (po_none.run pins s2 σ H2 (fun o H3 => o = none ∧ H3 = H2) I2 ⟨rfl, rfl⟩) fun vu s3 ⟨u, H3, I3, pu, eu, e3⟩ => ?_
  subst eu e3
  refine thn (hst.run pins s3 σ H3 (fun o H4 => o = some (-1) ∧ H4 = H3) I3 ⟨1, rfl, -1, rfl, rfl, rfl⟩) fun vs s4 ⟨o, H4, I4, ps, eo, e4⟩ => ?_
  subst eo e4
  have I5 : Inv X pins σ H4 { s4 with heap := s4.heap.push { cls := .type "slice", data := .fields #[vl, vu, vs] } } := I4.kept (t' := s4.toks) fun b ob q => Heap.get?_push_of_some _ q
  show wpAny (model X.prog X.w) X.A (subscriptTail e (.Slice none none (some (.UnaryOp .USub (.Constant (.int 1) k p1) p2)) p3) (.ref a) (.ref s4.heap.objs.size)) (EP X pins σ Q) X.xe { s4 with heap := s4.heap.push { cls := .type "slice", data := .fields #[vl, vu, vs] } }
  rcases q1 with ⟨hx, q⟩ | ⟨hx, q⟩
  · obtain ⟨its, r, ht, hz⟩ := I5.list hx
    have hlen := r.length
    refine tail_any (ops := [.ref a, .ref s4.heap.objs.size]) ht.isList.typeIs (PySem.slot_list_getitem.lookup) ?_ (by with_unfolding_all rfl)
    refine wpAny_getItem_list_slice ht.isList (Heap.IsSliceOf.new _ vl vu vs) pl pu ps (by decide) ?_ (by rw [List.size_toArray]; omega)
    rw [PySem.W.krv_pick]
    refine ⟨.ref _, _, I5.laid (t' := s4.toks) (o := .lst xs.reverse) (fun b ob q => Heap.get?_push_of_some _ q) (Nat.le_refl _) ?_, rfl, q _ (I5.hok.fresh (Nat.le_refl _))⟩
    exact ⟨by rw [List.length_reverse]; exact hz, _, 0, r.reverse, Heap.get?_push_size _ rfl⟩
  · obtain ⟨its, r, ht, hz⟩ := I5.tuple hx
    have hlen := r.length
    refine tail_any (ops := [.ref a, .ref s4.heap.objs.size]) ht.typeIs (PyProof.Rows.slot_tuple_getitem.lookup) ?_ (by with_unfolding_all rfl)
    refine NcT.getItem_tuple_rev ht (Heap.IsSliceOf.new _ vl vu vs) pl pu ps ?_ (by rw [List.size_toArray]; omega)
    refine ⟨.ref _, _, I5.laid (t' := s4.toks) (o := .tup xs.reverse) (fun b ob q => Heap.get?_push_of_some _ q) (Nat.le_refl _) ?_, rfl, q _ (I5.hok.fresh (Nat.le_refl _))⟩
    exact ⟨by rw [List.length_reverse]; exact hz, _, r.reverse, IsTup.new _ _⟩
end NC

end
section
set_option Elab.async false
set_option linter.all false
set_option maxRecDepth 100000
set_option maxHeartbeats 4000000
namespace NC
open PySem PySem.Spec PyProof.Rows L2 RZ
section
variable {X : Cx} {R : Rz}
/-! ### for x in a list or tuple; enumerate -/
def iSeq (t : TD) : TId := fun ρ M Φ => t ρ M fun p M1 => match p with
  | .lst xs => Φ xs M1
  | .tup xs => Φ xs M1
  | _ => False
theorem di_seq {tg e : Expr} {t : TD} (h : DE X R e t) : DI X R tg e (iSeq t) := by
  obtain ⟨g1, p1, k1⟩ := h.ex
  refine ⟨_, pi_seqA p1, fun Z σ H M ρ Φ Q s en l t k => k1 Z σ H M ρ _ _ s en l t fun p v Z1 M1 H1 s1 r1 a1 q1 => ?_⟩
  cases p <;> first | exact q1.elim | skip
  · rename_i xs
    obtain ⟨b, vs, ex, hq, l1⟩ := a1
    exact ⟨b, vs, ex, .inr ⟨seqT_same s1.z hq, k xs _ Z1 M1 H1 s1 r1 (walkP_at (walk_tup (K := X.K) (a := b) (xs := vs)) l1 fun Z2 H2 e1 e2 => seqT_same (e1.trans e2) hq) q1⟩⟩
  · rename_i xs
    obtain ⟨b, vs, ex, hq, l1⟩ := a1
    exact ⟨b, vs, ex, .inl ⟨sqL_rd s1.z hq, k xs _ Z1 M1 H1 s1 r1 (walkP_at (walk_list (K := X.K) (a := b) (xs := vs)) l1 fun Z2 H2 e1 e2 => sqL_rd (e1.trans e2) hq) q1⟩⟩
/-- number, item -/
def numd : Nat → List P → List P
  | _, [] => []
  | i, x :: xs => .tup [.int (i : Nat), x] :: numd (i + 1) xs
theorem numd_length : ∀ (i : Nat) (xs : List P), (numd i xs).length = xs.length
  | _, [] => rfl
  | i, x :: xs => by simp only [numd, List.length_cons, numd_length (i + 1) xs]
theorem numd_get : ∀ {xs : List P} {k i : Nat} {p : P}, (numd k xs)[i]? = some p → ∃ x, xs[i]? = some x ∧ p = .tup [.int ((k + i : Nat) : Int), x]
  | [], k, i, p, h => by simp [numd] at h
  | x :: xs, k, 0, p, h => by
    simp [numd] at h
    exact ⟨x, rfl, by rw [← h]; rfl⟩
  | x :: xs, k, i + 1, p, h => by
    have h : (numd (k + 1) xs)[i]? = some p := by simpa [numd] using h
    obtain ⟨a, h1, h2⟩ := numd_get h
    exact ⟨a, by simpa using h1, by rw [h2]; congr 3; omega⟩
theorem walkP_num {K : PySem.W.Frag} {J : It} {Z1 : Hp} {xs : List P} {vs : List V} (l : IsL K Z1 xs vs)
    (go : ∀ i x H2 Z2, Same Z1 Z2 → Same Z2 H2 → vs[i]? = some x → J.go i H2) (stop : ∀ H2 Z2, Same Z1 Z2 → Same Z2 H2 → J.stop vs.length H2)
    (yld : ∀ i x H2 Z2 v H', Same Z1 Z2 → Same Z2 H2 → vs[i]? = some x → J.yld i H2 v H' → ∃ T, v = .ref T ∧ H2 T = none ∧ H' = upd H2 T (.tup [.int (i : Nat), x])) : WalkP K J Z1 (numd 0 xs) := by
  refine fun Z2 M2 H2 s2 sm => ⟨fun i p hi => ?_, by rw [numd_length, l.length]; exact stop H2 Z2 sm s2.z⟩
  obtain ⟨x, h1, ep⟩ := numd_get hi
  subst ep
  obtain ⟨v, hv, a⟩ := l.get h1
  refine ⟨go i v H2 Z2 sm s2.z hv, fun x' H' yy => ?_⟩
  obtain ⟨T, e1, e2, e3⟩ := yld i v H2 Z2 x' H' sm s2.z hv yy
  subst e1 e3
  obtain ⟨s3, r3⟩ := s2.frz (o := .tup [.int (i : Nat), v]) e2
  exact ⟨_, s3, r3, ⟨T, _, rfl, .inl (.inl upd_same), ⟨_, _, rfl, show V.int _ = V.int _ by rw [Nat.zero_add], ⟨v, [], rfl, (a.mono sm).mono r3.z, rfl⟩⟩⟩⟩
def iEnumD (t : TDa) : TId := fun ρ M Φ => t ρ M fun ps M1 => match ps with
  | [.lst xs] => Φ (numd 0 xs) M1
  | [.tup xs] => Φ (numd 0 xs) M1
  | _ => False
theorem di_enum {e : Expr} {t : TDa} {p pos tpos : Pos} {elts : List Expr} {kk : Nat} (hg : Gl X "enumerate") (hm : X.mg "enumerate" = none) (ha : DA X R [e] t) (hs : starEach [e] X.env = [(false, eval e X.env)] := by rfl) :
    DI X R (.Tuple elts kk tpos) (.Call (.Name "enumerate" p) [e] [] pos) (iEnumD t) := by
  obtain ⟨g1, p1, k1⟩ := ha.ex
  refine ⟨_, pi_enumA hg hm p1 hs, fun Z σ H M ρ Φ Q s en l t k => k1 Z σ H M ρ _ _ s en l t fun ps vs Z1 M1 H1 s1 r1 a1 q1 => ?_⟩
  match ps, q1 with
  | [.lst xs], q1 =>
    obtain ⟨v, e, b1⟩ := isL_one a1
    obtain ⟨a, vs, ex, hx, lx⟩ := b1
    refine ⟨a, vs, by rw [e, ex], .inl ⟨sqL_rd s1.z hx, k _ _ Z1 M1 H1 s1 r1 ?_ q1⟩⟩
    refine walkP_num lx (fun i x H2 Z2 e1 e2 hv => ⟨vs, x, sqL_rd (e1.trans e2) hx, hv⟩) (fun H2 Z2 e1 e2 => ⟨vs, sqL_rd (e1.trans e2) hx, Nat.le_refl _⟩) fun i x H2 Z2 v' H' e1 e2 hv y => ?_
    obtain ⟨T, x', h1, h2, h3, h4⟩ := y
    have h5 := h4 vs (sqL_rd (e1.trans e2) hx)
    rw [hv] at h5
    cases h5
    exact ⟨T, h1, h2, h3⟩
  | [.tup xs], q1 =>
    obtain ⟨v, e, b1⟩ := isL_one a1
    obtain ⟨a, vs, ex, hx, lx⟩ := b1
    refine ⟨a, vs, by rw [e, ex], .inr ⟨seqT_same s1.z hx, k _ _ Z1 M1 H1 s1 r1 ?_ q1⟩⟩
    refine walkP_num lx (fun i x H2 Z2 e1 e2 hv => ⟨vs, x, seqT_same (e1.trans e2) hx, hv⟩) (fun H2 Z2 e1 e2 => ⟨vs, seqT_same (e1.trans e2) hx, Nat.le_refl _⟩) fun i x H2 Z2 v' H' e1 e2 hv y => ?_
    obtain ⟨T, x', h1, h2, h3, h4⟩ := y
    have h5 := h4 vs (seqT_same (e1.trans e2) hx)
    rw [hv] at h5
    cases h5
    exact ⟨T, h1, h2, h3⟩
/-! ### xs[::-1] -/
def dRev (t : TD) : TD := fun ρ M Φ => t ρ M fun p M1 => match p with
  | .lst xs => Φ (.lst xs.reverse) M1
  | .tup xs => Φ (.tup xs.reverse) M1
  | _ => False
theorem de_rev {e : Expr} {t : TD} {k : Nat} {p1 p2 p3 pos : Pos} (he : DE X R e t) : DE X R (.Subscript e (.Slice none none (some (.UnaryOp .USub (.Constant (.int 1) k p1) p2)) p3) pos) (dRev t) := by
  obtain ⟨g1, p1, k1⟩ := he.ex
  refine de_of (pe_revA p1) fun Z σ H M ρ Φ Q s en l t k => k1 Z σ H M ρ _ _ s en l t fun p v Z1 M1 H1 s1 r1 a1 q1 => ?_
  cases p <;> first | exact q1.elim | skip
  · rename_i xs
    obtain ⟨b, vs, ex, hq, l1⟩ := a1
    refine ⟨b, vs, ex, .inr ⟨seqT_same s1.z hq, fun p hp => ?_⟩⟩
    obtain ⟨s2, r2⟩ := s1.frz (o := .tup vs.reverse) hp
    exact k (.tup xs.reverse) _ _ M1 _ s2 (r1.trans r2) ⟨p, _, rfl, .inl (.inl upd_same), (l1.rev).mono r2.z⟩ q1
  · rename_i xs
    obtain ⟨b, vs, ex, hq, l1⟩ := a1
    refine ⟨b, vs, ex, .inl ⟨sqL_rd s1.z hq, fun p hp => ?_⟩⟩
    obtain ⟨s2, r2⟩ := s1.frz (o := .lst vs.reverse) hp
    exact k (.lst xs.reverse) _ _ M1 _ s2 (r1.trans r2) ⟨p, _, rfl, .inl upd_same, (l1.rev).mono r2.z⟩ q1
/-! ### append, pop of a mutable list -/
def dApp (to ta : TD) : TD := fun ρ M Φ => to ρ M fun o M1 => ta ρ M1 fun p M2 => match o with
  | .ref a => ∃ xs, M2 a = some (.lst xs) ∧ xs.length < sizeLine ∧ Φ .non (updM M2 a (.lst (xs ++ [p])))
  | _ => False
theorem St.tyL {K : PySem.W.Frag} {Z : Hp} {M : Mm} {H : Hp} {a : Addr} {xs : List P} (s : St K Z M H) (h : M a = some (.lst xs)) : tyV K "list" (.ref a) H := by
  obtain ⟨vs, e, l⟩ := s.m a _ h
  exact .inl ⟨rfl, vs, .inl (.inl e)⟩
/-- the list must be seen as one before the item is read -/
def dAppC (to ta : TD) : TD := fun ρ M Φ => to ρ M fun o M1 => (match o with | .ref a => ∃ xs, M1 a = some (.lst xs) | _ => False) ∧ ta ρ M1 fun p M2 => match o with
  | .ref a => ∃ xs, M2 a = some (.lst xs) ∧ xs.length < sizeLine ∧ Φ .non (updM M2 a (.lst (xs ++ [p])))
  | _ => False
theorem de_append {o e : Expr} {to te : TD} {apos cpos : Pos} (ho : DE X R o to) (he : DE X R e te)
    (hbase : attributeBase o "append" X.env (eval o X.env) = eval o X.env := by rfl)
    (hfew : ((backTo cpos (starEach [e] X.env)).all (fun x => !x.1) && (backToKw cpos (keywordEach [] X.env)).all (fun x => x.1.isSome)
      && decide ([e].length + ([] : List Keyword).length + (if ([] : List Keyword).isEmpty then 0 else 1) < 30)) = true := by rfl)
    (hline : (apos.endLine == cpos.line) = true := by rfl) (hs : starEach [e] X.env = (false, eval e X.env) :: starEach [] X.env := by rfl) (hplain : (backTo cpos (starEach [] X.env)).any (·.1) = false := by rfl) :
    DE X R (.Call (.Attribute o "append" apos) [e] [] cpos) (dAppC to te) := by
  obtain ⟨g1, p1, k1⟩ := ho.ex
  obtain ⟨g2, p2, k2⟩ := he.ex
  refine de_of (pe_bm PySem.F.plainAttrs_list PySem.F.slot_list_append PySem.F.type_list_append mt_append p1 (pa_cons p2 pa_nil hs) hbase hfew hline hs hplain) fun Z σ H M ρ Φ Q s en l t k => k1 Z σ H M ρ _ _ s en l t fun p v Z1 M1 H1 s1 r1 a1 q1 => ?_
  cases p <;> first | exact q1.1.elim | skip
  rename_i a
  obtain ⟨⟨xs0, h0⟩, q1⟩ := q1
  have ev : v = .ref a := a1
  refine ⟨by rw [ev]; exact s1.tyL h0, k2 Z1 σ H1 M1 ρ _ _ s1 (en.mono r1.z) (l.next r1) q1 fun q u Z2 M2 H2 s2 r2 a2 q2 => ?_⟩
  obtain ⟨xs, hm, hl, q⟩ := q2
  obtain ⟨vs, hh, l2⟩ := s2.m a _ hm
  refine ⟨a, vs, u, ev, rfl, hh, by rw [← l2.length]; exact hl, ?_⟩
  obtain ⟨s3, r3⟩ := s2.wr (u := .lst (xs ++ [_])) (o := .lst (vs ++ [u])) hm ⟨_, upd_same, l2.snoc a2⟩
  exact k .non .non _ _ _ s3 ((r1.trans r2).trans r3) rfl q
def dPop (to : TD) : TD := fun ρ M Φ => to ρ M fun o M1 => match o with
  | .ref a => ∃ xs y, M1 a = some (.lst xs) ∧ xs[xs.length - 1]? = some y ∧ Φ y (updM M1 a (.lst xs.dropLast))
  | _ => False
theorem de_pop {o : Expr} {to : TD} {apos cpos : Pos} (ho : DE X R o to)
    (hbase : attributeBase o "pop" X.env (eval o X.env) = eval o X.env := by rfl) (hline : (apos.endLine == cpos.line) = true := by rfl) : DE X R (.Call (.Attribute o "pop" apos) [] [] cpos) (dPop to) := by
  obtain ⟨g1, p1, k1⟩ := ho.ex
  refine de_of (pe_bm0 PySem.F.plainAttrs_list PySem.F.slot_list_pop PySem.F.type_list_pop mt_pop p1 hbase hline) fun Z σ H M ρ Φ Q s en l t k => k1 Z σ H M ρ _ _ s en l t fun p v Z1 M1 H1 s1 r1 a1 q1 => ?_
  cases p <;> first | exact q1.elim | skip
  rename_i a
  obtain ⟨xs, y, hm, hy, q⟩ := q1
  have ev : v = .ref a := a1
  obtain ⟨vs, hh, l2⟩ := s1.m a _ hm
  obtain ⟨u, hu, au⟩ := l2.get hy
  rw [l2.length] at hu
  refine ⟨by rw [ev]; exact s1.tyL hm, a, vs, u, ev, rfl, hh, hu, ?_⟩
  obtain ⟨s3, r3⟩ := s1.wr (u := .lst xs.dropLast) (o := .lst vs.dropLast) hm ⟨_, upd_same, l2.dropLast⟩
  exact k y u _ _ _ s3 (r1.trans r3) au q
/-! ### list(range(..)) -/
theorem iota_is {K : PySem.W.Frag} {Z : Hp} (a b : Int) : IsL K Z (iota a (b - a).toNat) (rgV a b) := by
  have e : iota a (b - a).toNat = ((List.range (b - a).toNat).map fun i => a + ((i : Nat) : Int)).map P.int := by
    unfold iota; rw [List.map_map]; rfl
  have e2 : rgV a b = ((List.range (b - a).toNat).map fun i => a + ((i : Nat) : Int)).map V.int := by
    unfold rgV; rw [List.map_map]; rfl
  rw [e, e2]
  exact IsL.of_ints
def dLRg1 (ta : TD) : TD := fun ρ M Φ => ta ρ M fun p M1 => match p with
  | .int j => RgOk 0 j ∧ Φ (.lst (iota 0 (j - 0).toNat)) M1
  | _ => False
def dLRg2 (ta tb : TD) : TD := fun ρ M Φ => ta ρ M fun p M1 => tb ρ M1 fun q M2 => match p, q with
  | .int i, .int j => RgOk i j ∧ Φ (.lst (iota i (j - i).toNat)) M2
  | _, _ => False
theorem de_listRg1 {a : Expr} {ta : TD} {p p2 pos pos2 : Pos} (hc : X.calm = true) (hg : Gl X "list") (hm : X.mg "list" = none) (hg2 : Gl X "range") (hm2 : X.mg "range" = none) (ha : DE X R a ta)
    (na : starEach [a] X.env = (false, eval a X.env) :: starEach [] X.env := by rfl) (nb : starEach [Expr.Call (.Name "range" p2) [a] [] pos2] X.env = (false, eval (Expr.Call (.Name "range" p2) [a] [] pos2) X.env) :: starEach [] X.env := by rfl) :
    DE X R (.Call (.Name "list" p) [.Call (.Name "range" p2) [a] [] pos2] [] pos) (dLRg1 ta) := by
  obtain ⟨g1, p1, k1⟩ := ha.ex
  refine de_of (pe_listRg hc hg hm (prg_1 hg2 hm2 p1 na) nb) fun Z σ H M ρ Φ Q s en l t k => k1 Z σ H M ρ _ _ s en l t fun p v Z1 M1 H1 s1 r1 a1 q1 => ?_
  cases p <;> first | exact q1.elim | skip
  rename_i j
  have ev : v = .int j := a1
  refine ⟨j, ev, q1.1, fun q hq => ?_⟩
  obtain ⟨s2, r2⟩ := s1.frz (o := .lst (rgV 0 j)) hq
  exact k (.lst (iota 0 (j - 0).toNat)) _ _ M1 _ s2 (r1.trans r2) ⟨q, _, rfl, .inl upd_same, iota_is 0 j⟩ q1.2
theorem de_listRg2 {a b : Expr} {ta tb : TD} {p p2 pos pos2 : Pos} (hc : X.calm = true) (hg : Gl X "list") (hm : X.mg "list" = none) (hg2 : Gl X "range") (hm2 : X.mg "range" = none) (ha : DE X R a ta) (hb : DE X R b tb)
    (na : starEach [a, b] X.env = (false, eval a X.env) :: starEach [b] X.env := by rfl) (na2 : starEach [b] X.env = (false, eval b X.env) :: starEach [] X.env := by rfl) (hp : (backTo pos2 (starEach [b] X.env)).any (·.1) = false := by rfl)
    (nb : starEach [Expr.Call (.Name "range" p2) [a, b] [] pos2] X.env = (false, eval (Expr.Call (.Name "range" p2) [a, b] [] pos2) X.env) :: starEach [] X.env := by rfl) :
    DE X R (.Call (.Name "list" p) [.Call (.Name "range" p2) [a, b] [] pos2] [] pos) (dLRg2 ta tb) := by
  obtain ⟨g1, p1, k1⟩ := ha.ex
  obtain ⟨g2, p2, k2⟩ := hb.ex
  refine de_of (pe_listRg hc hg hm (prg_2 hg2 hm2 p1 p2 na na2 hp) nb) fun Z σ H M ρ Φ Q s en l t k => k1 Z σ H M ρ _ _ s en l t fun p v Z1 M1 H1 s1 r1 a1 q1 => ?_
  refine k2 Z1 σ H1 M1 ρ _ _ s1 (en.mono r1.z) (l.next r1) q1 fun q u Z2 M2 H2 s2 r2 a2 q2 => ?_
  cases p <;> first | exact q2.elim | skip
  cases q <;> first | exact q2.elim | skip
  rename_i i j
  have ev : v = .int i := a1
  have eu : u = .int j := a2
  refine ⟨i, j, ev, eu, q2.1, fun q hq => ?_⟩
  obtain ⟨s3, r3⟩ := s2.frz (o := .lst (rgV i j)) hq
  exact k (.lst (iota i (j - i).toNat)) _ _ M2 _ s3 ((r1.trans r2).trans r3) ⟨q, _, rfl, .inl upd_same, iota_is i j⟩ q2.2
/-! ### split, join -/
def dSplit (to te : TD) : TD := fun ρ M Φ => to ρ M fun o M1 => te ρ M1 fun p M2 => match o, p with
  | .str a, .str b => ((b.length == 0) = false ∧ a.length + 2 ≤ sizeLine) ∧ Φ (.lst ((Txt.split a b).map P.str)) M2
  | _, _ => False
def isStrP : P → Prop | .str _ => True | _ => False
def dSplitC (to te : TD) : TD := fun ρ M Φ => to ρ M fun o M1 => isStrP o ∧ te ρ M1 fun p M2 => match o, p with
  | .str a, .str b => ((b.length == 0) = false ∧ a.length + 2 ≤ sizeLine) ∧ Φ (.lst ((Txt.split a b).map P.str)) M2
  | _, _ => False
theorem de_split {o e : Expr} {to te : TD} {apos pos : Pos} (ho : DE X R o to) (he : DE X R e te) (hs : starEach [e] X.env = [(false, eval e X.env)] := by rfl) (hbase : attributeBase o "split" X.env (eval o X.env) = eval o X.env := by rfl) (hline : (apos.endLine == pos.line) = true := by rfl) :
    DE X R (.Call (.Attribute o "split" apos) [e] [] pos) (dSplitC to te) := by
  obtain ⟨g1, p1, k1⟩ := ho.ex
  obtain ⟨g2, p2, k2⟩ := he.ex
  refine de_of (pe_split p1 p2 hs hbase hline) fun Z σ H M ρ Φ Q s en l t k => k1 Z σ H M ρ _ _ s en l t fun p v Z1 M1 H1 s1 r1 a1 q1 => ?_
  cases p <;> first | exact q1.1.elim | skip
  rename_i a
  have ev : v = .str a := a1
  refine ⟨⟨a, ev⟩, k2 Z1 σ H1 M1 ρ _ _ s1 (en.mono r1.z) (l.next r1) q1.2 fun q u Z2 M2 H2 s2 r2 a2 q2 => ?_⟩
  cases q <;> first | exact q2.elim | skip
  rename_i b
  have eu : u = .str b := a2
  refine ⟨a, b, ev, by rw [eu], q2.1.1, q2.1.2, fun c hc => ?_⟩
  obtain ⟨s3, r3⟩ := s2.frz (o := .lst ((Txt.split a b).map V.str)) hc
  exact k (.lst ((Txt.split a b).map P.str)) _ _ M2 _ s3 ((r1.trans r2).trans r3) ⟨c, _, rfl, .inl upd_same, IsL.of_strs⟩ q2.2
def dJoinC (to te : TD) : TD := fun ρ M Φ => to ρ M fun o M1 => isStrP o ∧ te ρ M1 fun p M2 => match o with
  | .str a => sqW p M2 fun xs => ∃ ys : List Str, xs = ys.map P.str ∧ (ys.map (·.length)).sum + ys.length * a.length ≤ 16777216 ∧ Φ (.str (Txt.join a ys)) M2
  | _ => False
theorem de_join {o e : Expr} {to te : TD} {apos pos : Pos} (ho : DE X R o to) (he : DE X R e te) (hs : starEach [e] X.env = [(false, eval e X.env)] := by rfl) (hbase : attributeBase o "join" X.env (eval o X.env) = eval o X.env := by rfl) (hline : (apos.endLine == pos.line) = true := by rfl) :
    DE X R (.Call (.Attribute o "join" apos) [e] [] pos) (dJoinC to te) := by
  obtain ⟨g1, p1, k1⟩ := ho.ex
  obtain ⟨g2, p2, k2⟩ := he.ex
  refine de_of (pe_join p1 p2 hs hbase hline) fun Z σ H M ρ Φ Q s en l t k => k1 Z σ H M ρ _ _ s en l t fun p v Z1 M1 H1 s1 r1 a1 q1 => ?_
  cases p <;> first | exact q1.1.elim | skip
  rename_i a
  have ev : v = .str a := a1
  refine ⟨⟨a, ev⟩, k2 Z1 σ H1 M1 ρ _ _ s1 (en.mono r1.z) (l.next r1) q1.2 fun q u Z2 M2 H2 s2 r2 a2 q2 => ?_⟩
  obtain ⟨xs, b, vs, ⟨ys, ex, hl, q⟩, eu, hq, l2⟩ := sq_of s2 a2 q2
  rw [ex] at l2
  have e2 := l2.strs
  refine ⟨a, b, ys, ev, by rw [eu], by rw [← e2]; exact hq, hl, ?_⟩
  exact k _ _ Z2 M2 H2 s2 (r1.trans r2) (show Is X.K Z2 (.str _) (.str _) from rfl) q
/-! ### is, is not of bools; list * int -/
theorem opd_isBl : OpD X (compareOp .Is) (fun p q M Φ => match p, q with | .bl a, .bl b => Φ (.bl (decide (a = b))) M | _, _ => False) := by
  refine ⟨_, op_isBl, fun Z M H p q x y Φ Q s a b t k => ?_⟩
  cases p <;> cases q <;> first | exact t.elim | skip
  exact ⟨_, _, a, b, k (.bl _) _ Z M H s .refl rfl t⟩
theorem opd_notBl : OpD X (compareOp .IsNot) (fun p q M Φ => match p, q with | .bl a, .bl b => Φ (.bl (!decide (a = b))) M | _, _ => False) := by
  refine ⟨_, op_notBl, fun Z M H p q x y Φ Q s a b t k => ?_⟩
  cases p <;> cases q <;> first | exact t.elim | skip
  exact ⟨_, _, a, b, k (.bl _) _ Z M H s .refl rfl t⟩
/-- a list just made, times an int -/
def mulLW : W2 := fun p q M Φ => match p, q with
  | .ref a, .int k => ∃ xs, M a = some (.lst xs) ∧ (-(2 ^ 63) ≤ k ∧ k < 2 ^ 63 ∧ xs.length * k.toNat ≤ sizeLine) ∧ Φ (.lst (List.replicate k.toNat xs).flatten) M
  | _, _ => False
theorem opd_mulL : OpD X (binaryOp .Mult) mulLW := by
  refine ⟨_, op_rep, fun Z M H p q x y Φ Q s a b t k => ?_⟩
  cases p <;> cases q <;> first | exact t.elim | skip
  rename_i c j
  have ex : x = .ref c := a
  have ey : y = .int j := b
  obtain ⟨xs, hm, ⟨h1, h2, h3⟩, q⟩ := t
  obtain ⟨vs, hh, l⟩ := s.m c _ hm
  refine ⟨c, j, vs, ex, ey, hh, h1, h2, by rw [← l.length]; exact h3, fun p hp => ?_⟩
  obtain ⟨s2, r2⟩ := s.frz (o := .lst (List.replicate j.toNat vs).flatten) hp
  exact k (.lst (List.replicate j.toNat xs).flatten) _ _ M _ s2 r2 ⟨p, _, rfl, .inl upd_same, (l.rep _).mono r2.z⟩ q
/-! ### never looked at -/
theorem de_never {e : Expr} : DE X R e (fun _ _ _ => False) := ⟨fun _ _ _ => False, ⟨fun _ _ _ _ _ _ h => h.elim⟩, fun Z σ H M ρ Φ Q s en l t k => t⟩
theorem dt_never {e : Expr} : DT X R e (fun _ _ _ => False) := ⟨fun _ _ _ => False, ⟨fun _ _ _ _ _ _ h => h.elim⟩, fun Z σ H M ρ Φ Q s en l t k => t⟩
end
end NC

end
section
set_option Elab.async false
set_option linter.all false
set_option maxRecDepth 100000
set_option maxHeartbeats 4000000
namespace NcT
open PySem PyProof.Rows SrtO
section
variable {prog : Program} {w : World} {A : Around} {E : Value → Shared → Prop} {s : Shared}
theorem collect_seqC {Q : List Value → Shared → Prop} (it : Addr) {T : String} {o : Obj} {items : Array Value} {n : Nat} (hT : T = "list" ∨ T = "tuple")
    (ho : s.heap.get? it = some o) (hc : o.cls = .type T) (hd : o.data = .seq items n)
    (hQ : Q items.toList { s with heap := (s.heap.push (seqObj "list" #[] 0)).update s.heap.objs.size (Obj.mapSeq (· ++ items)) }) (hsz : items.size ≤ sizeLine) :
    wpAny (model prog w) A (collect (.ref it)) Q E s := by
  unfold collect
  refine wpAny_bind (wpAny_runValue (codeAny_builtin F.entry_proto_collect ?_))
  rw [Around.under_plainId F.plain_proto_collect _]
  show wpAny _ A.in1 (newList [] >>= fun l => again (.builtin "list.__iadd__" ⟨[l, .ref it], []⟩)) _ _ s
  refine wpAny_bind (wpAny_newObj_type ?_)
  refine wpAny_pure ⟨plainId_quiet F.plain_list_iadd _, codeAny_builtin F.entry_list_iadd ?_⟩
  rw [Around.under_plainId F.plain_list_iadd _]
  show wpAny _ A.in1 (Builtin.List.listExtendWith (.ref s.heap.objs.size) (.ref it) (.ref s.heap.objs.size)) _ _ _
  have hS : (s.heap.push { cls := .type "list", data := .seq ([] : List Value).toArray }).get? s.heap.objs.size = some { cls := .type "list", data := .seq #[] 0 } := Heap.get?_push_size _ rfl
  have hS₂ := Heap.get?_update_self (Obj.mapSeq (· ++ items)) hS rfl
  have fin' : wpAny (model prog w) A (match Value.ref s.heap.objs.size with
      | Value.ref a => do
        match (← load a).data with
          | Data.seq xs _ => pure xs.toList
          | _ => unsupported "internal:collect"
      | _ => unsupported "internal:collect") Q E { s with heap := (s.heap.push { cls := .type "list", data := .seq ([] : List Value).toArray }).update s.heap.objs.size (Obj.mapSeq (· ++ items)) } := by
    show wpAny _ A (load s.heap.objs.size >>= _) _ _ _
    refine wpAny_bind (wpAny_load hS₂ ?_)
    refine wpAny_pure ?_
    have e : ((#[] : Array Value) ++ items).toList = items.toList := by simp
    show Q ((#[] : Array Value) ++ items).toList _
    rw [e]
    exact hQ
  refine wpAny_mono (wpAny_extend_seq (hsz := hsz) (A := A) (R := fun r s' => r = .ok (.ret (.ref s.heap.objs.size)) ∧ s' = { s with heap := (s.heap.push { cls := .type "list", data := .seq ([] : List Value).toArray }).update s.heap.objs.size (Obj.mapSeq (· ++ items)) })
    (s := { s with heap := s.heap.push { cls := .type "list", data := .seq ([] : List Value).toArray } }) _ it _ 0 hT hS (Heap.get?_push_of_some _ ho) hc hd ⟨rfl, rfl⟩) (fun fin s' h => ?_) (fun e s' h => ?_)
  · cases fin with
    | done f =>
      obtain ⟨e, rfl⟩ := h
      cases e
      exact fin'
    | again c' => exact ⟨h.1, codeAny_mono h.2 fun r s'' hr => by obtain ⟨rfl, rfl⟩ := hr; exact fin'⟩
  · exact absurd h.1 (by simp)
theorem sorted_ordT {l : Addr} {vs : List Value} {ltv : Value → Value → Bool} {Q : Value → Shared → Prop} (O : Swo ltv) (hl : IsTup s.heap l vs.toArray) (hz : vs.length ≤ sizeLine)
    (hS : 2 ≤ vs.length → ∀ (h₁ : Heap) (a : Addr), h₁.get? a = some (seqObj "list" vs.toArray 0) → (∀ b o, s.heap.get? b = some o → b ≠ a ∧ h₁.get? b = some o) → SortableO prog w A.in1.in1 { s with heap := h₁ } a vs ltv)
    (h : ∀ out : List Value, Srtd ltv out → Stb ltv out vs → Q (.ref (s.heap.objs.size + 1)) { s with heap := sortedAll s.heap vs out.toArray }) :
    wpAny (model prog w) A (call (.builtin "sorted") [.ref l]) Q E s := by
  refine Calls.call_function_entry kind_sorted plain_sorted entry_sorted (args_sorted1 _) ?_
  unfold Builtin.«sorted»
  obtain ⟨o, ho, hc, n, hd⟩ := id hl
  refine wpAny_bind (m := checkCount "sorted" 1 1 _) (wpAny_pure ?_)
  refine wpAny_bind (collect_seqC l (.inr rfl) ho hc hd ?_ (by rw [List.size_toArray]; exact hz))
  refine wpAny_bind (wpAny_newList ?_ hz)
  have hsz : ((s.heap.push (seqObj "list" #[] 0)).update s.heap.objs.size (Obj.mapSeq (· ++ vs.toArray))).objs.size = s.heap.objs.size + 1 := by
    rw [Heap.size_update, size_push']
  have hoL : (((s.heap.push (seqObj "list" #[] 0)).update s.heap.objs.size (Obj.mapSeq (· ++ vs.toArray))).push (seqObj "list" vs.toArray 0)).get? (s.heap.objs.size + 1) = some (seqObj "list" vs.toArray 0) := by
    rw [← hsz]; exact Heap.get?_push_size _ rfl
  have keep : ∀ b o, s.heap.get? b = some o → b ≠ s.heap.objs.size + 1 ∧ (((s.heap.push (seqObj "list" #[] 0)).update s.heap.objs.size (Obj.mapSeq (· ++ vs.toArray))).push (seqObj "list" vs.toArray 0)).get? b = some o := fun b o q => by
    have hlt : b < s.heap.objs.size := Heap.lt_size q
    refine ⟨Nat.ne_of_lt (Nat.lt_succ_of_lt hlt), Heap.get?_push_of_some _ ?_⟩
    rw [Heap.get?_update_ne _ _ _ _ (Nat.ne_of_lt hlt)]
    exact Heap.get?_push_of_some _ q
  show wpAny _ _ _ _ _ { s with heap := ((s.heap.push (seqObj "list" #[] 0)).update s.heap.objs.size (Obj.mapSeq (· ++ vs.toArray))).push (seqObj "list" vs.toArray 0) }
  rw [hsz]
  refine wpAny_bind (wpAny_holding (wpAny_call_entry slot_list_sort ⟨_, hoL, rfl⟩ entry_list_sort (list_sort_ord O hoL hz (fun h2 => hS h2 _ _ hoL keep) fun out hs hb => ⟨_, rfl, ?_⟩) (args_list_sort _)))
  exact wpAny_pure ⟨_, rfl, h out hs hb⟩
end
end NcT
namespace NC
open PySem PySem.Spec PyProof.Rows L2 RZ
section
variable {X : Cx} {R : Rz}
def rSortedIA (K : PySem.W.Frag) : List V → Hp → VK → Prop := fun vs H Q => ∃ (a : Addr) (ns : List Int), vs = [V.ref a] ∧ (SqL K H a (ns.map V.int) ∨ SqT K H a (ns.map V.int)) ∧
  ∀ (ns' : List Int) (p : Addr), ns'.Perm ns → ns'.Pairwise (· ≤ ·) → H p = none → Q (.ref p) (upd H p (.lst (ns'.map V.int)))
theorem cr_sortedIA : CallR X (.builtin "sorted") (rSortedIA X.K) := by
  intro pins s σ H vs us Q I r h
  obtain ⟨a, ns, rfl, hs, q⟩ := h
  rcases hs with hs | hs
  · exact cr_sortedI pins s σ H [V.ref a] us Q I r ⟨a, ns, rfl, hs, q⟩
  obtain ⟨its, rv, hl, hz⟩ := I.tuple hs
  rw [Vals.ref1 r]
  have hi := rv.ints
  refine NcT.sorted_ordT SrtO.swo_int hl (by rw [← rv.length]; exact hz) (fun h2 h₁ a' _ _ => SrtO.ints_sortable hi h2) fun out h1 h2 => ?_
  obtain ⟨k1, k2, k3⟩ := SrtO.ints_out hi h1 h2
  obtain ⟨ep, he'⟩ := PyProof.Rows.sortedAll_at s.heap its out.toArray
  have hlen : ((out.map SrtO.iv).map V.int).length ≤ sizeLine := by
    rw [List.length_map, k2.length_eq]
    rw [List.length_map] at hz
    exact hz
  exact ⟨.ref _, upd H (s.heap.objs.size + 1) (.lst ((out.map SrtO.iv).map V.int)), I.laid (t' := s.toks) (fun _ _ => PyProof.Rows.sortedAll_old) (Nat.le_succ _) ⟨hlen, out, ep, vals_of_ints k1, he'⟩, rfl, q _ _ k2 k3 (I.hok.fresh (Nat.le_succ _))⟩
/-! lists of tuples of ints -/
abbrev tE (b : V × List Int) : PyData := .tuple (b.2.map .int)
def rSortedTI (K : PySem.W.Frag) : List V → Hp → VK → Prop := fun vs H Q => ∃ (a : Addr) (bs : List (V × List Int)), vs = [V.ref a] ∧ SqL K H a (bs.map (·.1)) ∧ (∀ b ∈ bs, b.2 ≠ [] ∧ ∃ t, b.1 = .ref t ∧ SqT K H t (b.2.map V.int)) ∧
  ∀ (bs' : List (V × List Int)) (p : Addr), bs'.Perm bs → bs'.Pairwise (fun b c => PySem.W.dataLe false tE b c = true) → H p = none → Q (.ref p) (upd H p (.lst (bs'.map (·.1))))
theorem readsAll_ints {h : Heap} : ∀ {us : List Value} {ns : List Int}, IntsAre us ns → ReadsAll h us (ns.map .int) []
  | _, _, .nil => .nil
  | _, _, .cons n t r => ReadsAll.cons (.int n t) (readsAll_ints r)
theorem each_of_vals {bs : List (V × List Int)} : ∀ {us : List Value}, Vals (bs.map (·.1)) us → PySem.W.EachIs (fun v b => RelV b.1 v ∧ b ∈ bs) us bs := by
  suffices ∀ (cs : List (V × List Int)), (∀ c ∈ cs, c ∈ bs) → ∀ {us : List Value}, Vals (cs.map (·.1)) us → PySem.W.EachIs (fun v b => RelV b.1 v ∧ b ∈ bs) us cs from fun {us} r => this bs (fun _ h => h) r
  intro cs
  induction cs with
  | nil => intro _ us r; cases r; exact .nil
  | cons c cs ih =>
    intro hs us r
    cases r with
    | cons a r => exact .cons ⟨a, hs c List.mem_cons_self⟩ (ih (fun d hd => hs d (List.mem_cons_of_mem _ hd)) r)
theorem vals_of_each {bs : List (V × List Int)} {C : V × List Int → Prop} : ∀ {us : List Value}, PySem.W.EachIs (fun v b => RelV b.1 v ∧ C b) us bs → Vals (bs.map (·.1)) us := by
  induction bs with
  | nil => intro us r; cases r; exact .nil
  | cons c cs ih => intro us r; cases r with | cons a r => exact .cons a.1 (ih r)
theorem cr_sortedTI (hu : X.A.units + 64 < cLine) : CallR X (.builtin "sorted") (rSortedTI X.K) := by
  intro pins s σ H vs us Q I r h
  obtain ⟨a, bs, rfl, hs, hb, q⟩ := h
  obtain ⟨its, rv, hl, hz⟩ := I.list hs
  rw [Vals.ref1 r]
  have e := each_of_vals rv
  have er : PySem.W.EachIs (fun v b => ∃ as, Reads s.heap v (tE b) as) its bs := e.mono fun v b ⟨h1, h2⟩ => by
    obtain ⟨_, t, h3, h4⟩ := hb b h2
    obtain ⟨us, rt, ht, _⟩ := I.tuple h4
    rw [h3] at h1
    cases h1
    obtain ⟨o, ho, hc, n, hd⟩ := ht
    exact ⟨[], .tuple ho hc hd (readsAll_ints (intsAre_of rt))⟩
  refine PySem.W.sorted_data (enc := tE) hl.isList e er (PySem.W.AllAlike.of fun b b' => PySem.W.alike_ints _ _) (.inl fun d hd => ?_) (by rw [List.length_map] at hz; exact hz) (fun b _ => ?_) fun out hn eo => ?_
  · obtain ⟨b, hm, rfl⟩ := List.mem_map.mp hd
    obtain ⟨n0, _⟩ := hb b hm
    cases hb2 : b.2 with
    | nil => exact absurd hb2 n0
    | cons n ns => exact ⟨.int n, ns.map .int, by show PyData.tuple (b.2.map .int) = _; rw [hb2]; rfl⟩
  · have hd : (tE b).depth ≤ 1 := by
      show PyData.depthAll (b.2.map .int) + 1 ≤ 1
      have : ∀ ns : List Int, PyData.depthAll (ns.map .int) = 0 := fun ns => by
        induction ns with
        | nil => rfl
        | cons n ns ih => simp [PyData.depthAll, PyData.depth, ih]
      rw [this]
      exact Nat.le_refl _
    omega
  · have hp : (bs.mergeSort (PySem.W.dataLe false tE)).Perm bs := List.mergeSort_perm bs _
    obtain ⟨ep, he'⟩ := PyProof.Rows.sortedAll_at s.heap its out.toArray
    have hlen : ((bs.mergeSort (PySem.W.dataLe false tE)).map (·.1)).length ≤ sizeLine := by
      rw [List.length_map, hp.length_eq]
      rw [List.length_map] at hz
      exact hz
    refine ⟨.ref _, upd H (s.heap.objs.size + 1) (.lst ((bs.mergeSort (PySem.W.dataLe false tE)).map (·.1))), I.laid (t' := s.toks) (fun _ _ => PyProof.Rows.sortedAll_old) (Nat.le_succ _) ⟨hlen, out, ep, vals_of_each eo, he'⟩, rfl, q _ _ hp (PySem.W.sort_pairwise (PySem.W.sortLe_total _ _ _) _) (I.hok.fresh (Nat.le_succ _))⟩
/-! the tree's rules -/
def tupI (ns : List Int) : P := .tup (ns.map P.int)
def sortW : WL := fun ps M Φ => match ps with
  | [p] => sqW p M fun xs => ∃ ns : List Int, xs = ns.map P.int ∧ ∀ ns' : List Int, ns'.Perm ns → ns'.Pairwise (· ≤ ·) → Φ (.lst (ns'.map P.int)) M
  | _ => False
theorem cd_sorted : CallD X (.builtin "sorted") sortW := by
  refine ⟨_, cr_sortedIA, fun Z M H ps vs Φ Q s a t k => ?_⟩
  match ps, t with
  | [p], t =>
    obtain ⟨v, e, b⟩ := isL_one a
    obtain ⟨xs, c, ws, ⟨ns, e2, q⟩, ex, hq, l⟩ := sq_of s b t
    rw [e2] at l
    refine ⟨c, ns, by rw [e, ex], by rw [← l.ints]; exact hq, fun ns' p h1 h2 hp => ?_⟩
    obtain ⟨s2, r2⟩ := s.frz (o := .lst (ns'.map V.int)) hp
    exact k (.lst (ns'.map P.int)) _ _ M _ s2 r2 ⟨p, _, rfl, .inl upd_same, IsL.of_ints⟩ (q ns' h1 h2)
/-- a list of tuples of ints, none of them empty -/
def sortTW : WL := fun ps M Φ => match ps with
  | [p] => lsW p M fun xs => ∃ nss : List (List Int), xs = nss.map tupI ∧ (∀ ns ∈ nss, ns ≠ []) ∧ ∀ nss' : List (List Int), nss'.Perm nss → Φ (.lst (nss'.map tupI)) M
  | _ => False
theorem tups_of {K : PySem.W.Frag} {Z H : Hp} (sm : Same Z H) : ∀ {nss : List (List Int)} {vs : List V}, IsL K Z (nss.map tupI) vs → ∃ bs : List (V × List Int), vs = bs.map (·.1) ∧ bs.map (·.2) = nss ∧ ∀ b ∈ bs, Is K Z (tupI b.2) b.1 ∧ ∃ t, b.1 = .ref t ∧ SqT K H t (b.2.map V.int)
  | [], vs, h => ⟨[], h, rfl, fun _ h => nomatch h⟩
  | ns :: nss, vs, h => by
    obtain ⟨v, r, rfl, a, l⟩ := h
    obtain ⟨bs, e1, e2, e3⟩ := tups_of sm l
    refine ⟨(v, ns) :: bs, by rw [e1]; rfl, by rw [List.map_cons, e2], fun b hb => ?_⟩
    rcases List.mem_cons.mp hb with e | hb
    · subst e
      have a0 := a
      obtain ⟨t, us, e, q, l2⟩ := a
      exact ⟨a0, t, e, by rw [← l2.ints]; exact seqT_same sm q⟩
    · exact e3 b hb
theorem isL_of_pairs {K : PySem.W.Frag} {Z : Hp} : ∀ {bs : List (V × List Int)}, (∀ b ∈ bs, Is K Z (tupI b.2) b.1) → IsL K Z ((bs.map (·.2)).map tupI) (bs.map (·.1))
  | [], _ => rfl
  | b :: bs, h => ⟨_, _, rfl, h b List.mem_cons_self, isL_of_pairs fun c hc => h c (List.mem_cons_of_mem _ hc)⟩
theorem cd_sortedT (hu : X.A.units + 64 < cLine) : CallD X (.builtin "sorted") sortTW := by
  refine ⟨_, cr_sortedTI hu, fun Z M H ps vs Φ Q s a t k => ?_⟩
  match ps, t with
  | [p], t =>
    obtain ⟨v, e, b⟩ := isL_one a
    obtain ⟨xs, c, ws, ⟨nss, e2, n0, q⟩, ex, hq, l⟩ := ls_of s b t
    rw [e2] at l
    obtain ⟨bs, e3, e4, e5⟩ := tups_of s.z l
    refine ⟨c, bs, by rw [e, ex], .inl (by rw [← e3]; exact hq), fun b hb => ⟨n0 _ (by rw [← e4]; exact List.mem_map.mpr ⟨b, hb, rfl⟩), (e5 b hb).2⟩, fun bs' p hp _ hh => ?_⟩
    obtain ⟨s2, r2⟩ := s.frz (o := .lst (bs'.map (·.1))) hh
    refine k (.lst ((bs'.map (·.2)).map tupI)) _ _ M _ s2 r2 ⟨p, _, rfl, .inl upd_same, isL_of_pairs fun b hb => ((e5 b (hp.mem_iff.mp hb)).1).mono r2.z⟩ (q _ ?_)
    rw [← e4]
    exact hp.map _
end
end NC

end
section
set_option Elab.async false
set_option linter.all false
set_option maxRecDepth 100000
set_option maxHeartbeats 4000000
namespace NC
open PySem PySem.Spec PyProof.Rows L2 RZ
/-! ### reading comprehensions and loops -/
theorem lc_gen {g : TGd} {tt : TDt} {te : TD} {fin : List P → Mm → Prop} {ρ0 : Rho} (I : List P → List P → Mm → Prop)
    (step : ∀ x xs acc M (k : P → Mm → Prop) (k0 : Mm → Prop), I (x :: xs) acc M → (∀ p M', I xs (acc ++ [p]) M' → k p M') → (∀ M', I xs acc M' → k0 M') → g x ρ0 M fun ρ1 M1 => tt ρ1 M1 fun b M2 => if b = true then te ρ1 M2 k else k0 M2)
    (last : ∀ acc M, I [] acc M → fin acc M) : ∀ (items acc : List P) (M : Mm), I items acc M → lcW g tt te fin ρ0 items acc M
  | [], acc, M, h => last acc M h
  | x :: xs, acc, M, h => step x xs acc M _ _ h (fun p M' h' => lc_gen I step last xs (acc ++ [p]) M' h') (fun M' h' => lc_gen I step last xs acc M' h')
/-- nothing mutable is written: the items that pass the test, mapped -/
theorem lc_pure {g : TGd} {tt : TDt} {te : TD} {fin : List P → Mm → Prop} {ρ0 : Rho} {items acc : List P} {M : Mm} (t : P → Bool) (f : P → P)
    (step : ∀ x ∈ items, ∀ (k : P → Mm → Prop) (k0 : Mm → Prop), (t x = true → k (f x) M) → (t x = false → k0 M) → g x ρ0 M fun ρ1 M1 => tt ρ1 M1 fun b M2 => if b = true then te ρ1 M2 k else k0 M2)
    (last : fin (acc ++ (items.filter t).map f) M) : lcW g tt te fin ρ0 items acc M := by
  refine lc_gen (fun xs ac M' => M' = M ∧ (∀ x ∈ xs, x ∈ items) ∧ ac ++ (xs.filter t).map f = acc ++ (items.filter t).map f) (fun x xs ac M' k k0 h h1 h2 => ?_) (fun ac M' h => ?_) items acc M ⟨rfl, fun _ h => h, rfl⟩
  · obtain ⟨rfl, hm, he⟩ := h
    have hm' : ∀ y ∈ xs, y ∈ items := fun y hy => hm y (List.mem_cons_of_mem _ hy)
    refine step x (hm x List.mem_cons_self) k k0 (fun ht => h1 _ _ ⟨rfl, hm', ?_⟩) (fun ht => h2 _ ⟨rfl, hm', ?_⟩)
    · rw [List.filter_cons_of_pos ht, List.map_cons] at he
      rw [← he, List.append_assoc]; rfl
    · rw [List.filter_cons_of_neg (by rw [ht]; decide)] at he
      exact he
  · obtain ⟨rfl, _, he⟩ := h
    simp only [List.filter_nil, List.map_nil, List.append_nil] at he
    rw [he]; exact last
theorem lc_map {g : TGd} {te : TD} {fin : List P → Mm → Prop} {ρ0 : Rho} {items acc : List P} {M : Mm} (f : P → P)
    (step : ∀ x ∈ items, ∀ (k : P → Mm → Prop), k (f x) M → g x ρ0 M fun ρ1 M1 => te ρ1 M1 k)
    (last : fin (acc ++ items.map f) M) : lcW g dYes te fin ρ0 items acc M := by
  refine lc_gen (fun xs ac M' => M' = M ∧ (∀ x ∈ xs, x ∈ items) ∧ ac ++ xs.map f = acc ++ items.map f) (fun x xs ac M' k k0 h h1 h2 => ?_) (fun ac M' h => ?_) items acc M ⟨rfl, fun _ h => h, rfl⟩
  · obtain ⟨rfl, hm, he⟩ := h
    have hm' : ∀ y ∈ xs, y ∈ items := fun y hy => hm y (List.mem_cons_of_mem _ hy)
    have := step x (hm x List.mem_cons_self) k (h1 _ _ ⟨rfl, hm', by rw [← he, List.append_assoc]; rfl⟩)
    simp only [dYes, if_true]
    exact this
  · obtain ⟨rfl, _, he⟩ := h
    simp only [List.map_nil, List.append_nil] at he
    rw [he]; exact last
theorem for_gen {g : TGd} {tb : TSd} {D : DEnds} (I : List P → Rho → Mm → Prop)
    (step : ∀ x xs ρ M (nx : Rho → Mm → Prop), I (x :: xs) ρ M → (∀ ρ' M', I xs ρ' M' → nx ρ' M') → g x ρ M fun ρ1 M1 => tb { D with nx := nx, ct := nx, bk := D.nx } ρ1 M1)
    (last : ∀ ρ M, I [] ρ M → D.nx ρ M) : ∀ (items : List P) (ρ : Rho) (M : Mm), I items ρ M → forW g tb D items ρ M
  | [], ρ, M, h => last ρ M h
  | x :: xs, ρ, M, h => step x xs ρ M _ h fun ρ' M' h' => for_gen I step last xs ρ' M' h'
/-! ### plain facts -/
theorem deref_int {M : Mm} {i : Int} : deref M (.int i) = .int i := rfl
theorem deref_bl {M : Mm} {i : Bool} : deref M (.bl i) = .bl i := rfl
theorem deref_str {M : Mm} {i : Str} : deref M (.str i) = .str i := rfl
theorem deref_non {M : Mm} : deref M .non = .non := rfl
theorem deref_tup {M : Mm} {xs : List P} : deref M (.tup xs) = .tup xs := rfl
theorem deref_lst {M : Mm} {xs : List P} : deref M (.lst xs) = .lst xs := rfl
theorem deref_fit {M : Mm} {p : P} (h : fitP p = true) : deref M p = p := by cases p <;> first | rfl | cases h
theorem ok_int {i : Int} : okP (.int i) = true := rfl
theorem ok_bl {i : Bool} : okP (.bl i) = true := rfl
theorem ok_non : okP .non = true := rfl
theorem peq_int {i j : Int} : peq (.int i) (.int j) = decide (i = j) := by simp [peq]
theorem bmap {α : Type} (f : α → Bool) (xs : List α) : xs.map (fun x => P.bl (f x)) = (xs.map f).map P.bl := by rw [List.map_map]; rfl
theorem imap {α : Type} (f : α → Int) (xs : List α) : xs.map (fun x => P.int (f x)) = (xs.map f).map P.int := by rw [List.map_map]; rfl
theorem fitPs_mem : ∀ {xs : List P} {x : P}, fitPs xs = true → x ∈ xs → fitP x = true
  | y :: ys, x, h, hx => by
    have h2 : fitP y = true ∧ fitPs ys = true := by simpa [fitPs] using h
    rcases List.mem_cons.mp hx with e | hx
    · rw [e]; exact h2.1
    · exact fitPs_mem h2.2 hx
theorem fitPs_of : ∀ {xs : List P}, (∀ x ∈ xs, fitP x = true) → fitPs xs = true
  | [], _ => rfl
  | y :: ys, h => by
    show (fitP y && fitPs ys) = true
    rw [h y List.mem_cons_self, fitPs_of fun x hx => h x (List.mem_cons_of_mem _ hx)]
    rfl
theorem dpPs_mem : ∀ {xs : List P} {x : P}, x ∈ xs → dpP x ≤ dpPs xs
  | y :: ys, x, hx => by
    show dpP x ≤ max (dpP y) (dpPs ys)
    rcases List.mem_cons.mp hx with e | hx
    · rw [e]; omega
    · have := dpPs_mem hx; omega
theorem dpPs_of {n : Nat} : ∀ {xs : List P}, (∀ x ∈ xs, dpP x ≤ n) → dpPs xs ≤ n
  | [], _ => Nat.zero_le _
  | y :: ys, h => by
    show max (dpP y) (dpPs ys) ≤ n
    have := h y List.mem_cons_self
    have := dpPs_of fun x hx => h x (List.mem_cons_of_mem _ hx)
    omega
end NC
namespace NC
open PySem PySem.Spec PyProof.Rows L2 RZ
theorem line_of {n : Nat} (h : n ≤ 4000000) : n ≤ sizeLine := by rw [sizeLine_eq]; omega
theorem all_id {α : Type} (f : α → Bool) (xs : List α) : (xs.map f).all id = xs.all f := by rw [List.all_map]; rfl
theorem any_id {α : Type} (f : α → Bool) (xs : List α) : (xs.map f).any id = xs.any f := by rw [List.any_map]; rfl
end NC

end
section
set_option Elab.async false
set_option linter.all false
set_option maxRecDepth 100000
set_option maxHeartbeats 4000000
namespace NC
open PySem PySem.Spec PyProof.Rows L2 RZ
/-! ### numbers -/
theorem lg_le {i : Int} {n : Nat} (h1 : -(2 ^ n) < i) (h2 : i < 2 ^ n) : i.natAbs.log2 ≤ n := by
  by_cases h0 : i.natAbs = 0
  · rw [h0]; exact Nat.zero_le _
  · have h3 : i.natAbs < 2 ^ n := by
      have e : ((2 ^ n : Nat) : Int) = (2 : Int) ^ n := by simp
      omega
    exact Nat.le_of_lt ((Nat.log2_lt h0).mpr h3)
theorem mulOk {i j : Int} (h1 : -(2 ^ 200) < i) (h2 : i < 2 ^ 200) (h3 : -(2 ^ 200) < j) (h4 : j < 2 ^ 200) : CMulW i j := by
  have a := lg_le h1 h2
  have b := lg_le h3 h4
  unfold CMulW
  omega
theorem bits_le {i : Int} {n : Nat} (h1 : -(2 ^ n) < i) (h2 : i < 2 ^ n) : Builtin.Int.intBits i ≤ n + 1 := by
  have := lg_le h1 h2
  unfold Builtin.Int.intBits
  split <;> omega
theorem powOk {i j : Int} (h1 : -(2 ^ 200) < i) (h2 : i < 2 ^ 200) (h3 : 0 ≤ j) (h4 : j ≤ 1000) : CPowW i j := by
  have a := bits_le h1 h2
  refine ⟨h3, ?_⟩
  have : (Builtin.Int.intBits i : Int) * j ≤ 201 * 1000 := Int.mul_le_mul (by omega) h4 h3 (by omega)
  omega
theorem divOk {i j : Int} (h1 : 0 < j) (h2 : j < 2 ^ 200) : CDivW i j := by
  refine ⟨h1, ?_⟩
  have := lg_le (i := j) (n := 200) (by omega) h2
  omega
/-! ### systems -/
def sysP (L : List (List Int)) : P := .tup (L.map tupI)
def cols (L : List (List Int)) : Nat := (L.headD []).length
structure SysOk (L : List (List Int)) : Prop where
  r1 : 1 ≤ L.length
  r3 : L.length ≤ 3
  c1 : 1 ≤ cols L
  c6 : cols L ≤ 6
  w : ∀ l ∈ L, l.length = cols L
  e : ∀ l ∈ L, ∀ x ∈ l, -9 ≤ x ∧ x ≤ 9
theorem fit_ints : ∀ ns : List Int, fitPs (ns.map P.int) = true := fun ns => fitPs_of fun x hx => by
  obtain ⟨i, _, rfl⟩ := List.mem_map.mp hx
  rfl
theorem fit_tupI (ns : List Int) : fitP (tupI ns) = true := fit_ints ns
theorem fit_sysP (L : List (List Int)) : fitP (sysP L) = true := fitPs_of fun x hx => by
  obtain ⟨i, _, rfl⟩ := List.mem_map.mp hx
  exact fit_tupI i
theorem dp_ints : ∀ ns : List Int, dpPs (ns.map P.int) = 0 := fun ns => Nat.le_zero.mp (dpPs_of fun x hx => by
  obtain ⟨i, _, rfl⟩ := List.mem_map.mp hx
  exact Nat.le_refl _)
theorem dp_tupI (ns : List Int) : dpP (tupI ns) = 1 := by
  show dpPs (ns.map P.int) + 1 = 1
  rw [dp_ints]
theorem dp_sysP (L : List (List Int)) : dpP (sysP L) ≤ 2 := by
  show dpPs (L.map tupI) + 1 ≤ 2
  have : dpPs (L.map tupI) ≤ 1 := dpPs_of fun x hx => by
    obtain ⟨i, _, rfl⟩ := List.mem_map.mp hx
    rw [dp_tupI]
    exact Nat.le_refl _
  omega
def intOf : P → Int
  | .int i => i
  | _ => 0
def isInt : P → Bool
  | .int _ => true
  | _ => false
theorem ints_back : ∀ {xs : List P}, xs.all isInt = true → xs = (xs.map intOf).map P.int
  | [], _ => rfl
  | x :: xs, h => by
    rw [List.all_cons, Bool.and_eq_true] at h
    have ih := ints_back h.2
    rw [List.map_cons, List.map_cons, ← ih]
    cases x <;> first | rfl | cases h.1
theorem ints_int (ns : List Int) : (ns.map P.int).map intOf = ns := by
  rw [List.map_map]
  exact List.map_id'' (fun _ => rfl) ns
def within (v : P) (lo hi : Int) : Bool := match v with
  | .int i => decide (lo ≤ i) && decide (i ≤ hi)
  | _ => false
theorem within_int {v : P} {lo hi : Int} (h : within v lo hi = true) : isInt v = true ∧ lo ≤ intOf v ∧ intOf v ≤ hi := by
  cases v <;> first | (cases h; done) | skip
  rename_i i
  have h2 : lo ≤ i ∧ i ≤ hi := by simpa [within] using h
  exact ⟨rfl, h2⟩
def isEq (v : P) : Bool := match v with
  | .tup xs => decide (1 ≤ (xs.length : Int)) && decide ((xs.length : Int) ≤ 6) && xs.all fun x => within x (0 - 9) 9
  | _ => false
theorem isEq_of {v : P} (h : isEq v = true) : ∃ l : List Int, v = tupI l ∧ 1 ≤ l.length ∧ l.length ≤ 6 ∧ ∀ x ∈ l, -9 ≤ x ∧ x ≤ 9 := by
  cases v <;> first | (cases h; done) | skip
  rename_i xs
  simp only [isEq, Bool.and_eq_true, decide_eq_true_eq] at h
  obtain ⟨⟨h1, h2⟩, h3⟩ := h
  have h4 : ∀ x ∈ xs, within x (0 - 9) 9 = true := by simpa using h3
  have hi : xs.all isInt = true := by
    rw [List.all_eq_true]
    intro x hx
    exact (within_int (h4 x hx)).1
  refine ⟨xs.map intOf, by unfold tupI; rw [← ints_back hi], by rw [List.length_map]; omega, by rw [List.length_map]; omega, fun x hx => ?_⟩
  obtain ⟨y, hy, rfl⟩ := List.mem_map.mp hx
  have := (within_int (h4 y hy)).2
  omega
theorem isEq_tupI (l : List Int) (h1 : 1 ≤ l.length) (h2 : l.length ≤ 6) (h3 : ∀ x ∈ l, -9 ≤ x ∧ x ≤ 9) : isEq (tupI l) = true := by
  simp only [isEq, tupI, List.length_map, Bool.and_eq_true, decide_eq_true_eq]
  refine ⟨⟨by omega, by omega⟩, ?_⟩
  rw [List.all_map, List.all_eq_true]
  intro x hx
  have := h3 x hx
  show (decide ((0 : Int) - 9 ≤ x) && decide (x ≤ 9)) = true
  rw [Bool.and_eq_true, decide_eq_true_eq, decide_eq_true_eq]
  omega
def lenP : P → Nat
  | .tup xs => xs.length
  | .lst xs => xs.length
  | _ => 0
def isSys (v : P) : Bool := match v with
  | .tup xs => decide (1 ≤ (xs.length : Int)) && decide ((xs.length : Int) ≤ 3) && (xs.all isEq && xs.all fun x => decide ((lenP x : Int) = (lenP (xs.headD .non) : Int)))
  | _ => false
theorem sys_of_eqs : ∀ {xs : List P}, xs.all isEq = true → ∃ L : List (List Int), xs = L.map tupI ∧ ∀ l ∈ L, 1 ≤ l.length ∧ l.length ≤ 6 ∧ ∀ x ∈ l, -9 ≤ x ∧ x ≤ 9
  | [], _ => ⟨[], rfl, fun _ h => nomatch h⟩
  | x :: xs, h => by
    rw [List.all_cons, Bool.and_eq_true] at h
    obtain ⟨l, e, h1, h2, h3⟩ := isEq_of h.1
    obtain ⟨L, e2, h4⟩ := sys_of_eqs h.2
    refine ⟨l :: L, by rw [e, e2]; rfl, fun m hm => ?_⟩
    rcases List.mem_cons.mp hm with e | hm
    · rw [e]; exact ⟨h1, h2, h3⟩
    · exact h4 m hm
theorem isSys_of {v : P} (h : isSys v = true) : ∃ L, v = sysP L ∧ SysOk L := by
  cases v <;> first | (cases h; done) | skip
  rename_i xs
  simp only [isSys, Bool.and_eq_true, decide_eq_true_eq] at h
  obtain ⟨⟨h1, h2⟩, h3, h4⟩ := h
  obtain ⟨L, e, h5⟩ := sys_of_eqs h3
  subst e
  rw [List.length_map] at h1 h2
  cases L with
  | nil => simp at h1
  | cons l0 L =>
    have h6 : ∀ l ∈ l0 :: L, l.length = l0.length := fun l hl => by
      have := List.all_eq_true.mp h4 (tupI l) (List.mem_map.mpr ⟨l, hl, rfl⟩)
      have h8 : (l.length : Int) = (l0.length : Int) := by simpa [lenP, tupI] using this
      exact Int.ofNat.inj h8
    obtain ⟨a1, a2, a3⟩ := h5 l0 List.mem_cons_self
    exact ⟨_, rfl, ⟨by omega, by omega, a1, a2, h6, fun l hl => (h5 l hl).2.2⟩⟩
theorem isSys_sysP {L : List (List Int)} (s : SysOk L) : isSys (sysP L) = true := by
  have hr1 := s.r1
  have hr3 := s.r3
  simp only [isSys, sysP, List.length_map, Bool.and_eq_true, decide_eq_true_eq]
  refine ⟨⟨by omega, by omega⟩, ?_, ?_⟩
  · rw [List.all_map, List.all_eq_true]
    intro l hl
    have := s.w l hl
    exact isEq_tupI l (by rw [this]; exact s.c1) (by rw [this]; exact s.c6) (s.e l hl)
  · rw [List.all_map, List.all_eq_true]
    intro l hl
    have h := s.w l hl
    cases L with
    | nil => cases hl
    | cons l0 L =>
      have h8 : (l.length : Int) = (l0.length : Int) := congrArg Int.ofNat h
      simpa [lenP, tupI] using h8
/-- the sums of products -/
def dot (l m : List Int) : Int := ((l.zip m).map fun p => p.1 * p.2).sum
def nought (L : List (List Int)) (m : List Int) : Bool := L.all fun l => decide (dot l m = 0)
def picked (l : List Int) (ns : List Int) : Int := (ns.map fun n => l.getD n.toNat 0).sum
def sumBy (L : List (List Int)) (ns : List Int) : List Int := L.map fun l => picked l ns
def isAns (L : List (List Int)) (v : P) : Bool := match v with
  | .tup xs => decide ((xs.length : Int) = (cols L : Int)) && (xs.all (fun x => within x 1 1000000000000000000000000000000) && nought L (xs.map intOf))
  | _ => false
def ltPair : P → Bool
  | .tup [.int a, .int b] => decide (a < b)
  | _ => false
def isLot (n : Nat) (v : P) (least : Int) : Bool := match v with
  | .tup xs => !decide ((xs.length : Int) < least) && (xs.all (fun x => within x 0 ((n : Int) - 1)) && (pairUp xs (cutL xs (some 1) none)).all ltPair)
  | _ => false
/-! ### decks -/
def Deck (M : Mm) (k : Addr) (m : Nat) : Prop := ∃ a b c : Int, M k = some (.lst [.int a, .int b, .int c]) ∧ 0 ≤ a ∧ 0 ≤ b ∧ b < 2147483579 ∧ 0 ≤ c ∧ c ≤ m
theorem Deck.mono {M : Mm} {k : Addr} {m n : Nat} (d : Deck M k m) (h : m ≤ n) : Deck M k n := by
  obtain ⟨a, b, c, e, h1, h2, h3, h4, h5⟩ := d
  exact ⟨a, b, c, e, h1, h2, h3, h4, by omega⟩
/-- from a deck with m draws at most to one with n, nothing else written -/
structure Drawn (M : Mm) (k : Addr) (n : Nat) (M1 : Mm) : Prop where
  d : Deck M1 k n
  o : ∀ j, j ≠ k → M1 j = M j
theorem Drawn.trans {M M1 M2 : Mm} {k : Addr} {n n2 : Nat} (a : Drawn M k n M1) (b : Drawn M1 k n2 M2) : Drawn M k n2 M2 := ⟨b.d, fun j h => (b.o j h).trans (a.o j h)⟩
theorem Drawn.refl {M : Mm} {k : Addr} {n : Nat} (a : Deck M k n) : Drawn M k n M := ⟨a, fun _ _ => rfl⟩
theorem Drawn.mono {M M1 : Mm} {k : Addr} {n n2 : Nat} (a : Drawn M k n M1) (h : n ≤ n2) : Drawn M k n2 M1 := ⟨a.d.mono h, a.o⟩
theorem Deck.some {M : Mm} {k : Addr} {n : Nat} (d : Deck M k n) : ∃ o, M k = some o := by
  obtain ⟨a, b, c, e, _⟩ := d
  exact ⟨_, e⟩
end NC
namespace NC
open PySem PySem.Spec PyProof.Rows L2 RZ
theorem SysOk.hd {L : List (List Int)} (s : SysOk L) : ∃ l0 L0, L = l0 :: L0 ∧ l0.length = cols L ∧ atI (L.map tupI) 0 = some (tupI l0) := by
  cases L with
  | nil => have := s.r1; simp at this
  | cons l0 L0 => exact ⟨l0, L0, rfl, rfl, atI_nat (j := 0) rfl⟩
theorem pairUp_mem {xs ys : List P} {p : P} (h : p ∈ pairUp xs ys) : ∃ x y, x ∈ xs ∧ y ∈ ys ∧ p = .tup [x, y] := by
  obtain ⟨i, hi⟩ := List.mem_iff_getElem?.mp h
  obtain ⟨x, y, h1, h2, h3⟩ := pairUp_get hi
  exact ⟨x, y, List.mem_iff_getElem?.mpr ⟨i, h1⟩, List.mem_iff_getElem?.mpr ⟨i, h2⟩, h3⟩
theorem cutL_mem {α : Type} {xs : List α} {lo hi : Option Int} {x : α} (h : x ∈ cutL xs lo hi) : x ∈ xs := List.mem_of_mem_drop (List.mem_of_mem_take h)
theorem cutL_length {α : Type} {xs : List α} {lo hi : Option Int} : (cutL xs lo hi).length ≤ xs.length := by
  unfold cutL
  rw [List.length_take, List.length_drop]
  omega
theorem pairUp_ints : ∀ (l m : List Int), pairUp (l.map P.int) (m.map P.int) = (l.zip m).map fun p => .tup [.int p.1, .int p.2]
  | [], _ => rfl
  | _ :: _, [] => rfl
  | x :: l, y :: m => by
    show P.tup [.int x, .int y] :: pairUp (l.map P.int) (m.map P.int) = _
    rw [pairUp_ints l m]; rfl
end NC
namespace NC
open PySem PySem.Spec PyProof.Rows L2 RZ
theorem at0 {α : Type} {x : α} {xs : List α} : atI (x :: xs) 0 = some x := atI_nat (j := 0) rfl
theorem at1 {α : Type} {x y : α} {xs : List α} : atI (x :: y :: xs) 1 = some y := atI_nat (j := 1) rfl
theorem at2 {α : Type} {x y z : α} {xs : List α} : atI (x :: y :: z :: xs) 2 = some z := atI_nat (j := 2) rfl
theorem ix30 : ixN 3 0 = some 0 := rfl
theorem ix31 : ixN 3 1 = some 1 := rfl
theorem ix32 : ixN 3 2 = some 2 := rfl
theorem SubM.drawn {M M1 : Mm} {k : Addr} {n : Nat} (d : Drawn M k n M1) : ∀ j, j ≠ k → M1 j = M j := d.o
end NC
namespace NC
open PySem PySem.Spec PyProof.Rows L2 RZ
/-! ### how long the sequences of a tree are -/
mutual
def bigP (n : Nat) : P → Bool
  | .tup xs => decide (xs.length ≤ n) && bigPs n xs
  | .lst xs => decide (xs.length ≤ n) && bigPs n xs
  | _ => true
def bigPs (n : Nat) : List P → Bool
  | [] => true
  | x :: xs => bigP n x && bigPs n xs
end
theorem bigPs_mem {n : Nat} : ∀ {xs : List P} {x : P}, bigPs n xs = true → x ∈ xs → bigP n x = true
  | y :: ys, x, h, hx => by
    have h2 : bigP n y = true ∧ bigPs n ys = true := by simpa [bigPs] using h
    rcases List.mem_cons.mp hx with e | hx
    · rw [e]; exact h2.1
    · exact bigPs_mem h2.2 hx
theorem bigPs_of {n : Nat} : ∀ {xs : List P}, (∀ x ∈ xs, bigP n x = true) → bigPs n xs = true
  | [], _ => by simp [bigPs]
  | y :: ys, h => by
    have h1 := h y List.mem_cons_self
    have h2 := bigPs_of fun x hx => h x (List.mem_cons_of_mem _ hx)
    simp [bigPs, h1, h2]
theorem bigP_ints {n : Nat} (ns : List Int) : bigPs n (ns.map P.int) = true := bigPs_of fun x hx => by
  obtain ⟨i, _, rfl⟩ := List.mem_map.mp hx
  simp [bigP]
theorem bigP_tupI {n : Nat} {ns : List Int} (h : ns.length ≤ n) : bigP n (tupI ns) = true := by
  simp [bigP, tupI, h, bigP_ints]
end NC
namespace NC
open PySem PySem.Spec PyProof.Rows L2 RZ
/-- a deck drawn from, and lists of one's own beside it -/
structure Kept (M0 : Mm) (k : Addr) (n : Nat) (M : Mm) : Prop where
  d : Deck M k n
  o : ∀ j, j ≠ k → ∀ u, M0 j = some u → M j = some u
theorem Kept.refl {M : Mm} {k : Addr} {n : Nat} (h : Deck M k n) : Kept M k n M := ⟨h, fun _ _ _ h => h⟩
theorem Drawn.kept {M0 M : Mm} {k : Addr} {n : Nat} (h : Drawn M0 k n M) : Kept M0 k n M := ⟨h.d, fun j hj u e => (h.o j hj).trans e⟩
theorem Kept.mono {M0 M : Mm} {k : Addr} {n n2 : Nat} (h : Kept M0 k n M) (l : n ≤ n2) : Kept M0 k n2 M := ⟨h.d.mono l, h.o⟩
theorem Kept.drawn {M0 M M1 : Mm} {k : Addr} {n n2 : Nat} (h : Kept M0 k n M) (d : Drawn M k n2 M1) : Kept M0 k n2 M1 := ⟨d.d, fun j hj u e => (d.o j hj).trans (h.o j hj u e)⟩
theorem Kept.new {M0 M : Mm} {k a : Addr} {n : Nat} {o : MO} (h : Kept M0 k n M) (e : M a = none) : Kept M0 k n (updM M a o) := by
  have hk : k ≠ a := fun z => by
    obtain ⟨u, hu⟩ := h.d.some
    rw [z, e] at hu
    cases hu
  refine ⟨?_, fun j hj u q => ?_⟩
  · obtain ⟨x, y, z, e1, r⟩ := h.d
    exact ⟨x, y, z, by rw [updM_ne hk]; exact e1, r⟩
  · have h1 := h.o j hj u q
    rw [updM_ne (fun z => by rw [z, e] at h1; cases h1)]
    exact h1
theorem Kept.wr {M0 M : Mm} {k a : Addr} {n : Nat} {o : MO} (h : Kept M0 k n M) (e : M0 a = none) (hk : k ≠ a) : Kept M0 k n (updM M a o) := by
  refine ⟨?_, fun j hj u q => ?_⟩
  · obtain ⟨x, y, z, e1, r⟩ := h.d
    exact ⟨x, y, z, by rw [updM_ne hk]; exact e1, r⟩
  · have h1 := h.o j hj u q
    rw [updM_ne (fun z => by rw [z, e] at q; cases q)]
    exact h1
theorem Kept.back {M0 M : Mm} {k : Addr} {n : Nat} (h : Kept M0 k n M) : ∃ M1, SubM M1 M ∧ Drawn M0 k n M1 := by
  refine ⟨fun j => if j = k then M j else M0 j, fun a o q => ?_, ?_, fun j hj => if_neg hj⟩
  · by_cases ha : a = k
    · simpa [ha] using q
    · exact h.o a ha o (by simpa [ha] using q)
  · obtain ⟨x, y, z, e1, r⟩ := h.d
    exact ⟨x, y, z, by simpa using e1, r⟩
theorem Lt.kept {Φ : P → Mm → Prop} {p : P} {M0 M : Mm} {k : Addr} {n : Nat} (h : Kept M0 k n M) (f : ∀ M1, Drawn M0 k n M1 → Φ p M1) : Lt Φ p M := by
  obtain ⟨M1, s, d⟩ := h.back
  exact ⟨M1, s, f M1 d⟩
theorem iota_length (lo : Int) (n : Nat) : (iota lo n).length = n := by unfold iota; rw [List.length_map, List.length_range]
theorem ne_addr {M : Mm} {a b : Addr} {o : MO} (h1 : M a = some o) (h2 : M b = none) : a ≠ b := fun z => by rw [z, h2] at h1; cases h1
theorem sum_dropLast_lt : True := trivial
theorem cut_butlast {α : Type} (xs : List α) : cutL xs none (some (-1)) = xs.dropLast := by
  unfold cutL
  have e0 : HT.sIx xs.length 0 none = 0 := rfl
  have e1 : HT.sIx xs.length xs.length (some (-1)) = xs.length - 1 := by
    show (if (-1 : Int) < 0 then ((-1 : Int) + (xs.length : Int)).toNat else min (-1 : Int).toNat xs.length) = _
    rw [if_pos (by decide)]
    omega
  rw [e0, e1, List.drop_zero, List.dropLast_eq_take, Nat.sub_zero]
theorem ixN_neg1 {n : Nat} (h : 0 < n) : ixN n (-1) = some (n - 1) := by
  unfold ixN
  rw [if_neg (by decide), if_pos (by omega)]
  congr 1
  omega
theorem atI_neg1 {α : Type} {xs : List α} (h : 0 < xs.length) : ∃ v, v ∈ xs ∧ atI xs (-1) = some v := by
  refine ⟨xs[xs.length - 1], List.getElem_mem _, ?_⟩
  unfold atI
  rw [ixN_neg1 h]
  simp
theorem map_dropLast (ns : List Int) : (ns.map P.int).dropLast = ns.dropLast.map P.int := by
  rw [List.dropLast_eq_take, List.dropLast_eq_take, List.length_map, List.map_take]
theorem map_set (ns : List Int) (j : Nat) (x : Int) : (ns.map P.int).set j (.int x) = (ns.set j x).map P.int := by
  rw [List.map_set]
end NC
namespace NC
open PySem PySem.Spec PyProof.Rows L2 RZ
theorem iota_zero (lo : Int) : iota lo 0 = [] := rfl
theorem iota_succ (lo : Int) (n : Nat) : iota lo (n + 1) = .int lo :: iota (lo + 1) n := by
  unfold iota
  rw [List.range_succ_eq_map, List.map_cons, List.map_map]
  congr 1
  · congr 1; omega
  · refine List.map_congr_left fun i _ => ?_
    show P.int (lo + ((i + 1 : Nat) : Int)) = P.int (lo + 1 + (i : Int))
    congr 1; omega
theorem iota_ints (lo : Int) (n : Nat) : iota lo n = ((List.range n).map fun i : Nat => lo + (i : Int)).map P.int := by
  unfold iota; rw [List.map_map]; rfl
theorem fit_iota (lo : Int) (n : Nat) : fitPs (iota lo n) = true := by rw [iota_ints]; exact fit_ints _
theorem tupI_inj {a b : List Int} (h : tupI a = tupI b) : a = b := by
  have h2 : a.map P.int = b.map P.int := P.tup.inj h
  have h3 := congrArg (List.map intOf) h2
  rwa [ints_int, ints_int] at h3
theorem ok_tupI (ns : List Int) : okP (tupI ns) = true := by
  unfold okP
  rw [fit_tupI, dp_tupI]; rfl
theorem peqs_ints : ∀ (l m : List Int), peqs (l.map P.int) (m.map P.int) = decide (l = m)
  | [], [] => by simp [peqs]
  | [], _ :: _ => by simp [peqs]
  | _ :: _, [] => by simp [peqs]
  | x :: l, y :: m => by
    have ih := peqs_ints l m
    show (peq (.int x) (.int y) && peqs (l.map P.int) (m.map P.int)) = _
    rw [ih, peq_int, Bool.eq_iff_iff, Bool.and_eq_true, decide_eq_true_eq, decide_eq_true_eq, decide_eq_true_eq, List.cons.injEq]
theorem peq_tupI (l m : List Int) : peq (tupI l) (tupI m) = decide (l = m) := by
  show peq (.tup (l.map P.int)) (.tup (m.map P.int)) = _
  rw [show peq (.tup (l.map P.int)) (.tup (m.map P.int)) = peqs (l.map P.int) (m.map P.int) by simp [peq]]
  exact peqs_ints l m
theorem tupI_snoc (ns : List Int) (i : Int) : P.tup (ns.map P.int ++ [.int i]) = tupI (ns ++ [i]) := by
  unfold tupI; rw [List.map_append]; rfl
end NC

end
section
set_option Elab.async false
set_option linter.all false
set_option maxRecDepth 100000
set_option maxHeartbeats 4000000
namespace NcT
open PySem PyProof.Rows HotX
section
variable {prog : Program} {w : World} {A : Around} {E : Value → Shared → Prop} {s : Shared}
theorem nextOf_list_end_hot {it l x1 : Addr} {i : Nat} {items} {Q : Value → Shared → Prop} (hot : HotAt A x1 s.heap) (hxi : x1 ≠ it)
    (hit : s.heap.IsListIter it l i) (hl : s.heap.IsList l items) (hx : items[i]? = none)
    (hE : ∀ h' e, Heap.ExtBut it s.heap h' → (∃ o, h'.get? e = some o ∧ o.cls = .type "StopIteration") → E (.ref e) { s with heap := h' }) :
    wpAny (model prog w) A (Builtin.SmallTypes.nextOf (.ref it)) Q E s := by
  obtain ⟨o, ho, hc, hd⟩ := id hit
  obtain ⟨ol, hol, _, nl, hdl⟩ := hl
  obtain ⟨hh, o1, vs1, h1, d1, c1⟩ := hot
  unfold Builtin.SmallTypes.nextOf
  refine wpAny_bind (wpAny_callSpecial?_slot (name := Str.ofString "__next__") hit.typeIs slot_listiter_next
    (wpAny_call_entry slot_listiter_next hit.typeIs entry_listiter_next ?_ (args_listiter_next _)))
  show wpAny _ _ (field (.ref it) 0 >>= _) _ _ s
  refine wpAny_bind (wpAny_field ho hd (x := .ref l) rfl ?_)
  show wpAny _ _ (if (Value.ref l == Value.none) = true then _ else _) _ _ s
  rw [if_neg (show ¬ ((Value.ref l == Value.none) = true) from Bool.false_ne_true)]
  show wpAny _ _ (field (.ref it) 1 >>= _) _ _ s
  refine wpAny_bind (wpAny_field ho hd (x := .int i 0) rfl ?_)
  show wpAny _ _ (seqItems? (.ref l) >>= _) _ _ s
  refine wpAny_bind (wpAny_seqItems hol hdl ?_)
  simp only [Int.toNat_natCast, hx]
  refine wpAny_bind (wpAny_rule (wpAny_bind (wpAny_setField ho hd (by simp) ?_)))
  show wpAny _ _ (newExc (.type "StopIteration") [] >>= _) _ _ _
  refine wpAny_bind ?_
  simp only [newExc, newTuple]
  refine wpAny_bind (wpAny_newObj_type ?_ (by size_fits))
  refine wpAny_bind (m := firstArgMember _ _) (wpAny_of_eq (a := Value.none) (by first | rfl | (simp only [firstArgMember]; rfl)) ?_)
  refine wpAny_newObj_type ?_ (by size_fits)
  have up : ∀ (g : Obj → Obj) (b : Addr) (u : Obj), b ≠ it → s.heap.get? b = some u → (s.heap.update it g).get? b = some u := fun g b u hb q => (Heap.SameBut.update s.heap it g).extBut b u hb q
  refine raiseNew_hot ⟨hh, o1, vs1, Heap.get?_push_of_some _ (Heap.get?_push_of_some _ (up _ _ _ hxi h1)), d1, c1⟩ (Nat.ne_of_lt (Heap.lt_size (Heap.get?_push_of_some _ (up _ _ _ hxi h1)))) (Heap.get?_push_size _ rfl) rfl (by first | (simp; done) | (simp; omega) | (simp only [Array.size_append]; simp; omega)) ?_
  refine hE _ _ (fun b u hb q => ?_) ⟨_, Heap.get?_update_self _ (Heap.get?_push_size _ rfl) rfl, rfl⟩
  rw [Heap.get?_update_other _ _ (Nat.ne_of_gt (Heap.lt_size (Heap.get?_push_of_some _ (up _ _ _ hb q))))]
  exact Heap.get?_push_of_some _ (Heap.get?_push_of_some _ (up _ _ _ hb q))
theorem next_tuple_end_hot {it t x1 : Addr} {i : Nat} {items} {Q : Option Value → Shared → Prop} (hot : HotAt A x1 s.heap) (hxi : x1 ≠ it)
    (hit : IsTupIter s.heap it t i) (ht : IsTup s.heap t items) (hx : items[i]? = none)
    (hQ : ∀ h', Heap.ExtBut it s.heap h' → Q none { s with heap := h' }) : wpAny (model prog w) A (pyNext (.ref it)) Q E s := by
  obtain ⟨o, ho, hc, hd⟩ := id hit
  obtain ⟨ol, hol, _, nl, hdl⟩ := ht
  obtain ⟨hh, o1, vs1, h1, d1, c1⟩ := hot
  unfold pyNext
  refine wpAny_bind (wpAny_attempt (wpAny_callSpecial?_slot (name := Str.ofString "__next__") hit.typeIs slot_tupleiter_next
    (wpAny_call_entry slot_tupleiter_next hit.typeIs entry_tupleiter_next ?_ (args_tupleiter_next _))))
  show wpAny _ _ (field (.ref it) 0 >>= _) _ _ s
  refine wpAny_bind (wpAny_field ho hd (x := .ref t) rfl ?_)
  show wpAny _ _ (if (Value.ref t == Value.none) = true then _ else _) _ _ s
  rw [if_neg (show ¬ ((Value.ref t == Value.none) = true) from Bool.false_ne_true)]
  show wpAny _ _ (field (.ref it) 1 >>= _) _ _ s
  refine wpAny_bind (wpAny_field ho hd (x := .int i 0) rfl ?_)
  show wpAny _ _ (seqItems? (.ref t) >>= _) _ _ s
  refine wpAny_bind (wpAny_seqItems hol hdl ?_)
  simp only [Int.toNat_natCast, hx]
  refine wpAny_bind (wpAny_rule (wpAny_bind (wpAny_setField ho hd (by simp) ?_)))
  show wpAny _ _ (newExc (.type "StopIteration") [] >>= _) _ _ _
  refine wpAny_bind ?_
  simp only [newExc, newTuple]
  refine wpAny_bind (wpAny_newObj_type ?_ (by size_fits))
  refine wpAny_bind (m := firstArgMember _ _) (wpAny_of_eq (a := Value.none) (by first | rfl | (simp only [firstArgMember]; rfl)) ?_)
  refine wpAny_newObj_type ?_ (by size_fits)
  have up : ∀ (g : Obj → Obj) (b : Addr) (u : Obj), b ≠ it → s.heap.get? b = some u → (s.heap.update it g).get? b = some u := fun g b u hb q => (Heap.SameBut.update s.heap it g).extBut b u hb q
  refine raiseNew_hot ⟨hh, o1, vs1, Heap.get?_push_of_some _ (Heap.get?_push_of_some _ (up _ _ _ hxi h1)), d1, c1⟩ (Nat.ne_of_lt (Heap.lt_size (Heap.get?_push_of_some _ (up _ _ _ hxi h1)))) (Heap.get?_push_size _ rfl) rfl (by first | (simp; done) | (simp; omega) | (simp only [Array.size_append]; simp; omega)) ?_
  refine wpAny_bind (wpAny_isInstance (T := "StopIteration") (b := true) ⟨_, Heap.get?_update_self _ (Heap.get?_push_size _ rfl) rfl, rfl⟩ isSubtype_stop ?_)
  refine wpAny_pure (hQ _ fun b u hb q => ?_)
  rw [Heap.get?_update_other _ _ (Nat.ne_of_gt (Heap.lt_size (Heap.get?_push_of_some _ (up _ _ _ hb q))))]
  exact Heap.get?_push_of_some _ (Heap.get?_push_of_some _ (up _ _ _ hb q))
theorem HotAt.keeps {x1 : Addr} {h h' : Heap} (hot : HotAt A x1 h) (k : ∀ o, h.get? x1 = some o → h'.get? x1 = some o) : HotAt A x1 h' := by
  obtain ⟨hh, o1, vs1, h1, d1, c1⟩ := hot
  exact ⟨hh, o1, vs1, k _ h1, d1, c1⟩
theorem unpackItems_tuple_hot {t x1 : Addr} {items : Array Value} {Q : List Value → Shared → Prop} (hot : HotAt A x1 s.heap) (ht : IsTup s.heap t items)
    (hQ : ∀ h', Heap.ExtBut s.heap.objs.size s.heap h' → Q items.toList { s with heap := h' }) : wpAny (model prog w) A (unpackItems (.ref t) items.size none) Q E s := by
  have hlt : t ≠ s.heap.objs.size := by obtain ⟨o, ho, _⟩ := ht; exact Nat.ne_of_lt (Heap.lt_size ho)
  have hlx : x1 ≠ s.heap.objs.size := by obtain ⟨_, o, _, ho, _⟩ := hot; exact Nat.ne_of_lt (Heap.lt_size ho)
  unfold unpackItems
  refine wpAny_bind ?_
  · unfold notIterableAtAll
    refine wpAny_bind (wpAny_specialOf ht.typeIs slot_tuple_iter.lookup ?_)
    refine wpAny_pure ?_
    simp only [Bool.false_eq_true, if_false]
    refine wpAny_bind (wpAny_holding (iter_tuple ht ?_))
    refine wpAny_bind (wpAny_holding (draw_tuple hlt items.size 0 _ _ ⟨_, Heap.get?_push_size _ rfl, rfl, rfl⟩ (ht.push _) (by omega) fun h₁ hit₁ hs₁ => ?_))
    have hall : List.take items.size (List.drop 0 items.toList) = items.toList := by
      rw [List.drop_zero]; exact List.take_of_length_le (by simp)
    rw [hall]
    rw [if_neg (by simp)]
    have ht₁ : IsTup h₁ t items := (ht.push _).extBut hs₁.extBut hlt
    have hot₁ : HotAt A x1 h₁ := HotAt.keeps hot fun o e => hs₁.extBut _ _ hlx (Heap.get?_push_of_some _ e)
    refine wpAny_bind (wpAny_holding (next_tuple_end_hot hot₁ hlx hit₁ ht₁ (by simp) fun h₂ he₂ => ?_))
    simp only [Option.isSome_none, Bool.false_eq_true, if_false]
    refine wpAny_pure (hQ h₂ fun b o hb e => he₂ b o hb (hs₁.extBut b o hb (Heap.get?_push_of_some _ e)))
theorem assign_Tuple_tuple_hot {env : Env} {elts : List Expr} {k1} {pos : Pos} {t x1 : Addr} {items : Array Value} {Q : Unit → Shared → Prop} (hot : HotAt A x1 s.heap) (ht : IsTup s.heap t items)
    (hn : (assignEach elts env).length = items.size) (hstar : (assignEach elts env).findIdx? (·.1) = none)
    (h : ∀ h', Heap.ExtBut s.heap.objs.size s.heap h' → wpAny (model prog w) A (assignInOrder ((assignEach elts env).map (·.2)) items.toList) Q E { s with heap := h' }) :
    wpAny (model prog w) A (assign (.Tuple elts k1 pos) env (.ref t)) Q E s := by
  rw [assign_Tuple]
  refine wpAny_bind (wpAny_standAt ?_)
  unfold unpack
  rw [hn, hstar]
  exact wpAny_bind (wpAny_holding (unpackItems_tuple_hot hot ht h))
theorem zip_next_end_hot {z TI TO i1 i2 l1 l2 x1 : Addr} {k1 k2 : Nat} {xs ys : Array Value} {a b : Value} {Q : Fin → Shared → Prop} (hot : HotAt A x1 s.heap) (nz : x1 ≠ z) (nTO : x1 ≠ TO) (n1 : x1 ≠ i1) (n2 : x1 ≠ i2) (D : ZipApart z TI TO i1 i2 l1 l2)
    (hz : IsZip s.heap z TI TO .none) (hTI : IsPair s.heap TI (.ref i1) (.ref i2)) (hTO : IsPair s.heap TO a b)
    (h1 : s.heap.IsListIter i1 l1 k1) (h2 : s.heap.IsListIter i2 l2 k2) (hl1 : s.heap.IsList l1 xs) (hl2 : s.heap.IsList l2 ys) (hend : xs[k1]? = none ∨ ys[k2]? = none)
    (hE : ∀ h' e, (∀ c o, c ≠ z → c ≠ TO → c ≠ i1 → c ≠ i2 → s.heap.get? c = some o → h'.get? c = some o) → (∃ o, h'.get? e = some o ∧ o.cls = .type "StopIteration") → E (.ref e) { s with heap := h' }) :
    wpAny (model prog w) A (Builtin.«zip.__next__» ⟨[.ref z], []⟩) Q E s := by
  show wpAny _ _ (field (.ref z) 2 >>= _) _ _ _
  refine wpAny_bind (wpAny_field hz rfl (x := .bool false) rfl ?_)
  show wpAny _ _ (field (.ref z) 3 >>= _) _ _ _
  refine wpAny_bind (wpAny_field hz rfl (x := .ref TI) rfl ?_)
  refine wpAny_bind (wpAny_seqItems hTI rfl ?_)
  show wpAny _ _ (Builtin.SmallTypes.ownedTupleIsFree (.ref z) >>= _) _ _ _
  refine wpAny_bind ?_
  unfold Builtin.SmallTypes.ownedTupleIsFree
  refine wpAny_bind (wpAny_field hz rfl (x := .none) rfl (wpAny_pure ?_))
  simp only [if_true]
  refine wpAny_bind (wpAny_rule ?_)
  refine wpAny_bind (wpAny_field hz rfl (x := .ref TO) rfl ?_)
  refine wpAny_bind (wpAny_setField_rec hz (by simp) fun h₁ hz₁ hs₁ => ?_)
  replace hz₁ : IsZip h₁ z TI TO .ellipsis := hz₁
  have hot1 : HotAt A x1 h₁ := HotAt.keeps hot fun o e => hs₁.extBut _ _ nz e
  refine wpAny_bind ?_
  simp only [List.zipIdx_cons, List.zipIdx_nil, List.forIn_cons, List.forIn_nil]
  refine wpAny_bind (wpAny_bind (wpAny_onRaise ?_))
  show wpAny _ _ (Builtin.SmallTypes.nextOf (.ref i1) >>= _) _ _ _
  cases hx : xs[k1]? with
  | none =>
    refine wpAny_bind (nextOf_list_end_hot hot1 n1 (h1.extBut hs₁.extBut D.i1z) (hl1.extBut hs₁.extBut D.l1z) hx fun h₂ e hs₂ he => ?_)
    obtain ⟨oe, hoe, hce⟩ := he
    have hz₂ : IsZip h₂ z TI TO .ellipsis := hs₂ _ _ D.i1z.symm hz₁
    have hez : e ≠ z := fun x => by subst x; rw [hz₂] at hoe; cases hoe; simp at hce
    refine wpAny_setField_rec hz₂ (by simp) fun h₃ _ hs₃ => hE h₃ e (fun c o c1 _ c3 _ x => hs₃.extBut _ _ c1 (hs₂ _ _ c3 (hs₁.extBut _ _ c1 x))) ⟨oe, hs₃.extBut _ _ hez hoe, hce⟩
  | some x =>
    have hy : ys[k2]? = none := by rcases hend with h | h; rw [hx] at h; cases h; exact h
    refine wpAny_bind (wpAny_nextOf_list_item (h1.extBut hs₁.extBut D.i1z) (hl1.extBut hs₁.extBut D.l1z) hx fun h₂ h1₂ hs₂ => wpAny_pure ?_)
    have hTO₂ : IsPair h₂ TO a b := hs₂.extBut _ _ D.TOi1 (hs₁.extBut _ _ D.TOz hTO)
    have hot2 : HotAt A x1 h₂ := HotAt.keeps hot1 fun o e => hs₂.extBut _ _ n1 e
    refine wpAny_bind (wpAny_seqItems hTO₂ rfl ?_)
    refine wpAny_bind (wpAny_updateSeq_pair hTO₂ fun h₃ hTO₃ hs₃ => ?_)
    have hot3 : HotAt A x1 h₃ := HotAt.keeps hot2 fun o e => hs₃.extBut _ _ nTO e
    refine wpAny_bind (wpAny_letGo (wpAny_pure ?_))
    refine wpAny_bind (wpAny_bind (wpAny_onRaise ?_))
    show wpAny _ _ (Builtin.SmallTypes.nextOf (.ref i2) >>= _) _ _ _
    refine wpAny_bind (nextOf_list_end_hot hot3 n2 (((h2.extBut hs₁.extBut D.i2z).extBut hs₂.extBut D.i12.symm).extBut hs₃.extBut D.TOi2.symm)
      (((hl2.extBut hs₁.extBut D.l2z).extBut hs₂.extBut D.l2i1).extBut hs₃.extBut D.l2TO) hy fun h₄ e hs₄ he => ?_)
    obtain ⟨oe, hoe, hce⟩ := he
    have hz₄ : IsZip h₄ z TI TO .ellipsis := hs₄ _ _ D.i2z.symm (hs₃.extBut _ _ D.TOz.symm (hs₂.extBut _ _ D.i1z.symm hz₁))
    have hez : e ≠ z := fun x => by subst x; rw [hz₄] at hoe; cases hoe; simp at hce
    refine wpAny_setField_rec hz₄ (by simp) fun h₅ _ hs₅ => hE h₅ e (fun c o c1 c2 c3 c4 x => hs₅.extBut _ _ c1 (hs₄ _ _ c4 (hs₃.extBut _ _ c2 (hs₂.extBut _ _ c3 (hs₁.extBut _ _ c1 x))))) ⟨oe, hs₅.extBut _ _ hez hoe, hce⟩
theorem pyNext_zip_end_hot {z TI TO i1 i2 l1 l2 x1 : Addr} {k1 k2 : Nat} {xs ys : Array Value} {a b : Value} {Q : Option Value → Shared → Prop} (hot : HotAt A x1 s.heap) (nz : x1 ≠ z) (nTO : x1 ≠ TO) (n1 : x1 ≠ i1) (n2 : x1 ≠ i2) (D : ZipApart z TI TO i1 i2 l1 l2)
    (hz : IsZip s.heap z TI TO .none) (hTI : IsPair s.heap TI (.ref i1) (.ref i2)) (hTO : IsPair s.heap TO a b)
    (h1 : s.heap.IsListIter i1 l1 k1) (h2 : s.heap.IsListIter i2 l2 k2) (hl1 : s.heap.IsList l1 xs) (hl2 : s.heap.IsList l2 ys) (hend : xs[k1]? = none ∨ ys[k2]? = none)
    (hQ : ∀ h', (∀ c o, c ≠ z → c ≠ TO → c ≠ i1 → c ≠ i2 → s.heap.get? c = some o → h'.get? c = some o) → Q none { s with heap := h' }) : wpAny (model prog w) A (pyNext (.ref z)) Q E s := by
  have hT : s.TypeIs (.ref z) "zip" := ⟨_, hz, rfl⟩
  unfold pyNext
  refine wpAny_bind (wpAny_attempt (wpAny_callSpecial?_slot (name := Str.ofString "__next__") hT F.slot_zip_next
    (wpAny_call_entry F.slot_zip_next hT F.entry_zip_next (zip_next_end_hot (A := A.in1) hot nz nTO n1 n2 D hz hTI hTO h1 h2 hl1 hl2 hend fun h' e hk he => ?_) (F.args_zip_next_1 _))))
  obtain ⟨o, ho, hc⟩ := he
  refine wpAny_bind (wpAny_isInstance (T := "StopIteration") (b := true) ⟨o, ho, hc⟩ isSubtype_stop ?_)
  exact wpAny_pure (hQ _ hk)
end
end NcT

end
section
set_option Elab.async false
set_option linter.all false
set_option maxRecDepth 100000
set_option maxHeartbeats 1000000
namespace L2H
open PySem PySem.Spec PyProof.Rows L2 HotX
theorem turn_zipH {P : Program} {w : World} {K : PySem.W.Frag} {elts : List Expr} {kk : Nat} {tpos : Pos} {a b z TI TO i1 i2 : Addr} (D : ZipApart z TI TO i1 i2 a b) :
    TurnH P w K (.Tuple elts kk tpos) (Itz K a b) [z, TI, TO, i1, i2] z (fun i h => IsZip h z TI TO .none ∧ IsPair h TI (.ref i1) (.ref i2) ∧ (∃ x y, IsPair h TO x y) ∧ h.IsListIter i1 a i ∧ h.IsListIter i2 b i) where
  mem := by simp
  obj := (turn_zip (P := P) (w := w) (K := K) (elts := elts) (kk := kk) (tpos := tpos) D).obj
  keep := (turn_zip (P := P) (w := w) (K := K) (elts := elts) (kk := kk) (tpos := tpos) D).keep
  item := by
    intro X hP hw hK hc i pins s σ H E I hf st hg
    subst hP hw hK
    obtain ⟨hz, hTI, ⟨x0, y0, hTO⟩, h1, h2⟩ := st
    obtain ⟨xs, ys, x, y, hqx, hqy, hx, hy⟩ := hg
    obtain ⟨its, rv, p, _⟩ := I.list hqx
    obtain ⟨its2, rv2, p2, _⟩ := I.list hqy
    obtain ⟨u, hu, ru⟩ := rv.get hx
    obtain ⟨u2, hu2, ru2⟩ := rv2.get hy
    have hzl : z < s.heap.objs.size := Heap.lt_size hz
    refine wpAny_pyNext_zip_item D hz hTI hTO h1 h2 p.isList p2.isList (x := u) (y := u2) (by simpa using hu) (by simpa using hu2) fun h' z' TO' h1' h2' hT hsz hk => ?_
    refine ⟨_, rfl, wpAny_letOwnedTupleGo_zip (s := { s with heap := h' }) z' fun h'' z'' sb => ?_⟩
    have hT2 : h''.get? s.heap.objs.size = some { cls := .type "tuple", data := .seq #[u, u2] } := (sb.2 _ (Nat.ne_of_gt hzl)).trans hT
    have new : ObjOk X.prog X.w (upd H s.heap.objs.size (.tup [x, y])) h'' s.heap.objs.size (.tup [x, y]) :=
      ⟨by show 2 ≤ sizeLine; decide, [u, u2], .cons ru (.cons ru2 .nil), ⟨_, hT2, rfl, _, rfl⟩⟩
    have I1 : Inv X pins σ (upd H s.heap.objs.size (.tup [x, y])) { s with heap := h'' } :=
      I.turnedNew (t' := s.toks) (ch := [z, TI, TO, i1, i2]) (fun c o hb q => (sb.2 c (fun q' => hb (by simp [q']))).trans (hk c o (fun q' => hb (by simp [q'])) (fun q' => hb (by simp [q'])) (fun q' => hb (by simp [q'])) (fun q' => hb (by simp [q'])) q)) hf (Nat.le_refl _) new
    refine ⟨.ref s.heap.objs.size, _, I1, rfl, ⟨_, x, y, rfl, I.hok.fresh (Nat.le_refl _), rfl, fun l hl => by rw [I.list_inj hl hqx]; exact hx, fun l hl => by rw [I.list_inj hl hqy]; exact hy⟩, ⟨z'', ?_, ⟨u, u2, ?_⟩, ?_, ?_⟩, fun c hcm => ?_⟩
    · exact (sb.2 _ D.TIz).trans (hk _ _ D.TIz D.TITO D.TIi1 D.TIi2 hTI)
    · exact (sb.2 _ D.TOz).trans TO'
    · exact h1'.at fun o q => (sb.2 _ D.i1z).trans q
    · exact h2'.at fun o q => (sb.2 _ D.i2z).trans q
    · have hlt : c < s.heap.objs.size := by
        have e' : c = z ∨ c = TI ∨ c = TO ∨ c = i1 ∨ c = i2 := by simpa using hcm
        rcases e' with q | q | q | q | q
        · rw [q]; exact hzl
        · rw [q]; exact Heap.lt_size hTI
        · rw [q]; exact Heap.lt_size hTO
        · rw [q]; obtain ⟨_, e1, _⟩ := h1; exact Heap.lt_size e1
        · rw [q]; obtain ⟨_, e2, _⟩ := h2; exact Heap.lt_size e2
      rw [upd_ne (Nat.ne_of_lt hlt)]
      exact (hf c hcm).1
  done := by
    intro X hP hw hK hc i pins s σ H E I hf st hg
    subst hP hw hK
    obtain ⟨hz, hTI, ⟨x0, y0, hTO⟩, h1, h2⟩ := st
    obtain ⟨xs, ys, hqx, hqy, hend⟩ := hg
    obtain ⟨its, rv, p, _⟩ := I.list hqx
    obtain ⟨its2, rv2, p2, _⟩ := I.list hqy
    have l1 := rv.length
    have l2 := rv2.length
    have he : its.toArray[i]? = none ∨ its2.toArray[i]? = none := by
      rcases hend with q | q
      · exact .inl (by simp; omega)
      · exact .inr (by simp; omega)
    obtain ⟨p0, ⟨hh, v1, e1, c1⟩, hp⟩ := hc
    have hot : HotAt X.A p0.1 s.heap := ⟨hh, p0.2, v1, (I.pin p0 (List.mem_append_left _ hp)).1, e1, c1⟩
    have ne : ∀ c ∈ [z, TI, TO, i1, i2], p0.1 ≠ c := fun c hcm q => (hf c hcm).2.2.2.2.2 p0 (List.mem_append_left _ hp) q
    exact NcT.pyNext_zip_end_hot hot (ne z (by simp)) (ne TO (by simp)) (ne i1 (by simp)) (ne i2 (by simp)) D hz hTI hTO h1 h2 p.isList p2.isList he fun h' hk => ⟨rfl, I.turnedL (t' := s.toks) (ch := [z, TI, TO, i1, i2]) (fun c o hb q =>
      hk c o (fun q' => hb (by simp [q'])) (fun q' => hb (by simp [q'])) (fun q' => hb (by simp [q'])) (fun q' => hb (by simp [q'])) q) hf⟩
  self := fun A i s Q E st h => wpAny_pyIter_zip st.1 h
theorem pi_zipH {X : Cx} {e e2 : Expr} {ta : TA} {p pos tpos : Pos} {elts : List Expr} {kk : Nat} (hg : Gl X "zip") (hm : X.mg "zip" = none) (ha : PA X [e, e2] ta)
    (hs : starEach [e, e2] X.env = (false, eval e X.env) :: starEach [e2] X.env := by rfl) (hpl : (backTo pos (starEach [e2] X.env)).any (·.1) = false := by rfl) :
    PIH X (.Tuple elts kk tpos) (.Call (.Name "zip" p) [e, e2] [] pos) (iZip X.K ta) := by
  refine ⟨fun pins s σ H R I h => ?_⟩
  refine Call_ (ld_blt I hg hm PyProof.Rows.boot_zip (PyProof.Rows.callWith_type1 (thn (ha.run pos pins s σ H _ I h) fun us s1 ⟨vs, H1, I1, r1, q1⟩ => ?_) hs hpl))
  obtain ⟨a, b, xs, ys, ex, hqx, hqy, q⟩ := q1
  subst ex
  cases r1 with
  | cons r rr =>
    cases rr with
    | cons r' rr =>
      cases rr
      cases r
      cases r'
      have fresh5 : ∀ c, c ∈ [s1.heap.objs.size + 4, s1.heap.objs.size + 2, s1.heap.objs.size + 3, s1.heap.objs.size, s1.heap.objs.size + 1] → FpOk X pins H1 c := fun c hcm => by
        have e' : c = s1.heap.objs.size + 4 ∨ c = s1.heap.objs.size + 2 ∨ c = s1.heap.objs.size + 3 ∨ c = s1.heap.objs.size ∨ c = s1.heap.objs.size + 1 := by simpa using hcm
        have hle : s1.heap.objs.size ≤ c := by
          rcases e' with z | z | z | z | z
          · rw [z]; exact Nat.le_add_right _ _
          · rw [z]; exact Nat.le_add_right _ _
          · rw [z]; exact Nat.le_add_right _ _
          · rw [z]; exact Nat.le_refl _
          · rw [z]; exact Nat.le_add_right _ _
        exact I1.fpOk hle (I1.hok.fresh hle)
      obtain ⟨its, rv, p1, _⟩ := I1.list hqx
      obtain ⟨its2, rv2, p2, _⟩ := I1.list hqy
      refine call_zip_2 p1.isList p2.isList fun h' hz hTI hTO h1 h2 hsz hk => wpAny_pyIter_zip hz ?_
      have I2 : Inv X pins σ H1 { s1 with heap := h' } := I1.kept (t' := s1.toks) hk
      exact ⟨s1.heap.objs.size + 4, [s1.heap.objs.size + 4, s1.heap.objs.size + 2, s1.heap.objs.size + 3, s1.heap.objs.size, s1.heap.objs.size + 1], _, _, H1, rfl, I2, turn_zipH (PySem.W.ktu_apart s1.heap.objs.size a b p1.lt p2.lt), ⟨hz, hTI, ⟨_, _, hTO⟩, h1, h2⟩, fresh5, q⟩
theorem pg_tupH {X : Cx} {es : List Expr} {k : Nat} {pos : Pos} {t : TGs} {n : Nat} (hc : HotC X) (h : PGs X es t)
    (hn : (assignEach es X.env).length = n := by rfl) (hst : (assignEach es X.env).findIdx? (·.1) = none := by rfl) : PG X (.Tuple es k pos) (gTup X.K n t) := by
  refine ⟨fun pins s σ H v u Q I r hw => ?_⟩
  obtain ⟨a, xs, e1, hq, hl, hw⟩ := hw
  subst e1
  cases r
  obtain ⟨its, rv, ht, hz⟩ := I.tuple hq
  obtain ⟨x1, hot⟩ := hc.at I
  refine NcT.assign_Tuple_tuple_hot hot ht (by simp [hn, ← hl, rv.length]) hst fun h' hx => ?_
  have I1 : Inv X pins σ H { s with heap := h' } := I.kept (t' := s.toks) fun b o e => hx b o (Nat.ne_of_lt (Heap.lt_size e)) e
  exact h.run pins _ σ H xs _ Q I1 (by simpa using rv) hw
/-- a block's context that bears the def's pins -/
abbrev Cx.blkH (X : Cx) (s : Shared) (H : Hp) (scope : Scope) (cenv : Env) (fp : List Addr) : Cx := (X.blk s H scope cenv fp).tr (X.pn) (fun _ _ => False)
theorem hot_blk {X : Cx} {s : Shared} {H : Hp} {scope : Scope} {cenv : Env} {fp : List Addr} (hc : HotC X) : HotC (Cx.blkH X s H scope cenv fp) := hc
section
variable {X : Cx}
theorem lc_coreH {s : Shared} {σ : St} {H : Hp} {Q : VK} {elt tg iter : Expr} {ifs : List Expr} {scope : Scope} {own : List (Str × Nat)} {pos pos' : Pos} {wi : TI} {g : TG} {tt : TT} {te : TE} {use : Option (Value → Sem Unit)} {Qf : Value → Shared → Prop} {pins : List (Addr × Obj)}
    (hc : HotC X) (hN : X.N.Nodup) (I : Inv X pins σ H s) (hi : PIH X tg iter wi) (ok : BlkOk X.N X.env.scope scope own)
    (hg : ∀ (s : Shared) (H : Hp) (C : Addr) (cl : List (Str × Addr)) (fp : List Addr), PG (Cx.blkH X s H scope (compEnvC scope cl C X.env) fp) tg g) (ht : ∀ (s : Shared) (H : Hp) (C : Addr) (cl : List (Str × Addr)) (fp : List Addr), PTs (Cx.blkH X s H scope (compEnvC scope cl C X.env) fp) ifs tt)
    (he : ∀ (s : Shared) (H : Hp) (C : Addr) (cl : List (Str × Addr)) (fp : List Addr), PE (Cx.blkH X s H scope (compEnvC scope cl C X.env) fp) elt te) (hs : ∀ x, foldedSetIterable iter X.env x = pure x)
    (h : tLc wi g tt te (own.map (·.2)) σ H Q)
    (hRR : ∀ D C s' m H', Inv X pins σ H' s' → Q (.ref D) H' → s'.heap.Ns C m → FpOk X pins H' C → compPost (model X.prog X.w) X.A X.xe use Qf (.ref D) C (.ok .next) s') :
    wpAny (model X.prog X.w) X.A (comprehension (.ListComp elt [⟨tg, iter, ifs, 0⟩] scope pos) scope X.env pos' (newList []) false (eval iter X.env) use) Qf X.xe s := by
  have hfree : ∀ y ∈ scope.names, y.2 = .free → ∃ c, X.env.cells.lookup y.1 = some c := fun y hy e => by
    rcases ok.free y hy e with k | k
    · exact I.ok.has _ (.inl k)
    · exact I.ok.has _ (.inr k)
  refine wpAny_comprehension_free (use := use) rfl hs (closure_ok hfree) ok.kind (fun y hy e => by rw [ok.uniq y hy, e])
    (thn (hi.run pins s σ H _ I h) fun xv s1 hx => thn hx fun itv s2 h2 => ?_)
  obtain ⟨it, fp, tn, J, H2, e, I2, T, st2, f2, q⟩ := h2
  subst e
  refine wpAny_newObj_type (newEnv_comp ?_) (by show 0 ≤ sizeLine; decide)
  generalize hD : s2.heap.objs.size = D
  have hDn : H2 D = none := I2.hok.fresh (Nat.le_of_eq hD)
  obtain ⟨W, ⟨m0, w0⟩, turn⟩ := q D hDn
  generalize hs3 : ({ s2 with heap := s2.heap.push { cls := .type "list", data := .seq ([] : List Value).toArray } } : Shared) = s3
  have I3 : Inv X pins σ (upd H2 D (.lst [])) s3 := by
    rw [← hs3]
    refine I2.laid (t' := s2.toks) (fun b o e => Heap.get?_push_of_some _ e) (Nat.le_of_eq hD) ⟨Nat.zero_le _, [], 0, .nil, ?_⟩
    rw [← hD]
    exact Heap.get?_push_size _ rfl
  have h3 : s3.heap = s2.heap.push { cls := .type "list", data := .seq ([] : List Value).toArray } := by rw [← hs3]
  have sz : ∀ b ∈ fp, b < s2.heap.objs.size := fun b hb => by
    obtain ⟨o, e, _⟩ := T.obj _ _ st2 b hb
    exact Heap.lt_size e
  have f3 : ∀ b ∈ fp, FpOk X pins (upd H2 D (.lst [])) b ∧ b < s3.heap.objs.size := fun b hb => by
    have hlt := sz b hb
    refine ⟨⟨?_, (f2 b hb).2⟩, by rw [h3, Heap.size_push]; exact Nat.lt_succ_of_lt hlt⟩
    rw [upd_ne (by rw [← hD]; exact Nat.ne_of_lt hlt)]
    exact (f2 b hb).1
  have st3 : tn 0 s3.heap := T.keep _ _ _ st2 fun b _ o e => by rw [h3]; exact Heap.get?_push_of_some _ e
  have I40 := block_start I3 ok hN f3
  have pg := hg s3 (upd H2 D (.lst [])) s3.heap.objs.size (cellsFrom (s3.heap.objs.size + 1) scope.names (cloFrom X.env.cells scope.names [])) fp
  have pt := ht s3 (upd H2 D (.lst [])) s3.heap.objs.size (cellsFrom (s3.heap.objs.size + 1) scope.names (cloFrom X.env.cells scope.names [])) fp
  have pe := he s3 (upd H2 D (.lst [])) s3.heap.objs.size (cellsFrom (s3.heap.objs.size + 1) scope.names (cloFrom X.env.cells scope.names [])) fp
  show codeAny _ _ (.compStart (.ListComp elt [⟨tg, iter, ifs, 0⟩] scope pos) 0 (.ref it) (.ref D) (compEnvC scope (cellsFrom (s3.heap.objs.size + 1) scope.names (cloFrom X.env.cells scope.names [])) s3.heap.objs.size X.env)) (compPost (model X.prog X.w) X.A X.xe use Qf (.ref D) s3.heap.objs.size) { s3 with heap := pushCells (s3.heap.push { cls := .type "dict", data := .dict #[] }) scope.names }
  have nfp : ∀ b ∈ fp, (upd H2 D (.lst [])) b = none := fun b hb => (f3 b hb).1.1
  generalize hce : compEnvC scope (cellsFrom (s3.heap.objs.size + 1) scope.names (cloFrom X.env.cells scope.names [])) s3.heap.objs.size X.env = ce at I40 pg pt pe ⊢
  have cL : ce.locals = s3.heap.objs.size := by subst hce; rfl
  generalize hH3 : upd H2 D (.lst []) = H3 at I3 I40 pg pt pe w0 nfp f3
  -- the pins stand in the block, too
  have I4 : Inv (Cx.blkH X s3 H3 scope ce fp) [] (wipe σ (own.map (·.2))) H3 { s3 with heap := pushCells (s3.heap.push { cls := .type "dict", data := .dict #[] }) scope.names } := by
    refine ⟨I40.ok.toTry _ _, I40.os, I40.bare, I40.base, I40.loc, I40.cell, I40.free, I40.freeC, fun p hp => ?_, I40.hok, I40.len⟩
    have hp' : p ∈ X.pn := by rw [List.append_nil] at hp; exact hp
    obtain ⟨g1, g2, g3, g4, g5⟩ := I3.pin p (List.mem_append_left _ hp')
    refine ⟨pushCells_keeps _ _ _ _ (Heap.get?_push_of_some _ g1), g2, ?_, fun hm => ?_, g5⟩
    · show p.1 ≠ ce.locals
      rw [cL]
      exact Nat.ne_of_lt (Heap.lt_size g1)
    · exact (List.mem_cons.mp (I3.stkSub p.1 hm)).elim g3 g4
  generalize hs4 : ({ s3 with heap := pushCells (s3.heap.push { cls := .type "dict", data := .dict #[] }) scope.names } : Shared) = s4 at I4 ⊢
  have st4 : tn 0 s4.heap := T.keep _ _ _ st3 fun b _ o e => by rw [← hs4]; exact pushCells_keeps _ _ _ _ (Heap.get?_push_of_some _ e)
  have stat : ∀ {σ' : St} {H' : Hp} {s' : Shared}, Inv (Cx.blkH X s3 H3 scope ce fp) [] σ' H' s' → (∀ b ∈ fp, H' b = none) → ∀ b ∈ fp, FpOk (Cx.blkH X s3 H3 scope ce fp) [] H' b := fun {σ' H' s'} I' hn b hb =>
    ⟨hn b hb, (I'.ok.exf b hb).1, I'.ok.exfs b hb, .inl hb, fun x c e => (I'.ok.exf b hb).2 x c e, fun p hp => by
      have hp' : p ∈ X.pn := by rw [List.append_nil] at hp; exact hp
      exact (f3 b hb).1.2.2.2.2.2 p (List.mem_append_left _ hp')⟩
  have loop : codeAny (model X.prog X.w) X.A (.compLoop (.ListComp elt [⟨tg, iter, ifs, 0⟩] scope pos) 0 (.ref it) (.ref D) ce) (compPost (model X.prog X.w) X.A X.xe use Qf (.ref D) s3.heap.objs.size) s4 := by
    refine compLoop_any (fun n s' => ∃ i H', Inv (Cx.blkH X s3 H3 scope ce fp) [] (wipe σ (own.map (·.2))) H' s' ∧ tn i s'.heap ∧ (∀ b ∈ fp, H' b = none) ∧ W i n H') ?_ m0 ⟨0, H3, I4, st4, nfp, w0⟩
    rintro n s5 ⟨i, H5, I5, st5, n5, w5⟩
    rcases turn i n H5 w5 with ⟨stop, qq⟩ | ⟨go, Nx, hNx, step⟩
    · have td := T.done (Cx.blkH X s3 H3 scope ce fp) rfl rfl rfl (hot_blk hc) i [] s5 _ H5 (fun _ _ => False) I5 (stat I5 n5) st5 stop
      refine thnF td fun r s6 ⟨hr, I6⟩ => ?_
      subst hr
      have I7 : Inv X pins σ H5 s6 := I3.call' (ch := fp) I6.os I6.base I6.hok I6.bare fun b hb => ⟨(f3 b hb).1.2.2.2.1, (f3 b hb).1.2.1, (f3 b hb).1.2.2.2.2.1, (f3 b hb).1.2.2.2.2.2⟩
      have nC : H5 s3.heap.objs.size = none := by
        have z : H5 ce.locals = none := I6.free
        rw [cL] at z
        exact z
      obtain ⟨m, hn, _⟩ := I6.loc
      have hn : s6.heap.Ns ce.locals m := hn
      rw [cL] at hn
      exact hRR D s3.heap.objs.size s6 m H5 I7 qq hn (I3.fpOk (Nat.le_refl _) nC)
    · have ti := T.item (Cx.blkH X s3 H3 scope ce fp) rfl rfl rfl (hot_blk hc) i [] s5 _ H5 (fun _ _ => False) I5 (stat I5 n5) st5 go
      refine thnF ti fun r s6 ⟨u, hr, h6⟩ => ?_
      subst hr
      refine thnF h6 fun _ s7 ⟨x, H7, I7, r7, y7, st7, n7⟩ => ?_
      have I7' := I7.pinned (stat I7 n7) (T.obj _ _ st7)
      refine thnF (pg.run _ s7 _ H7 x u _ I7' r7 (step x H7 y7)) fun _ s8 ⟨σ8, H8, I8, hw8, q8⟩ => ?_
      refine thnF (pt.run _ s8 σ8 H8 _ I8 q8) fun b s9 ⟨H9, I9, q9⟩ => ?_
      have fin : ∀ {s' : Shared} {H' : Hp}, Inv (Cx.blkH X s3 H3 scope ce fp) ([] ++ pinsAt fp s7.heap) σ8 H' s' → Nx H' → ∃ m, m < n ∧ ∃ i H', Inv (Cx.blkH X s3 H3 scope ce fp) [] (wipe σ (own.map (·.2))) H' s' ∧ tn i s'.heap ∧ (∀ b ∈ fp, H' b = none) ∧ W i m H' := fun {s' H'} I' nx => by
        obtain ⟨m', hm, w'⟩ := hNx H' nx
        have pin' : ∀ b ∈ fp, ∀ o, s7.heap.get? b = some o → s'.heap.get? b = some o ∧ H' b = none := fun b hb o e =>
          let z := I'.pin (b, o) (List.mem_append_right _ (List.mem_append_right _ (mem_pinsAt hb e)))
          ⟨z.1, z.2.1⟩
        have hl : (wipe σ (own.map (·.2))).length = σ8.length := by rw [← hw8, wipe_length]
        refine ⟨m', hm, i + 1, H', (I'.unpinned (pins := [])).weak hl (fun j v e => ?_), T.keep _ _ _ st7 fun b hb o e => (pin' b hb o e).1, fun b hb => ?_, w'⟩
        · rw [← hw8] at e
          exact (wipe_some e).1
        · obtain ⟨o, e, _⟩ := T.obj _ _ st7 b hb
          exact (pin' b hb o e).2
      cases b with
      | false =>
        simp only [Bool.false_eq_true, if_false] at q9 ⊢
        exact fin I9 q9
      | true =>
        simp only [if_true] at q9 ⊢
        refine thnF (pe.run _ s9 σ8 H9 _ I9 q9) fun z s10 ⟨yv, H10, I10, r10, acc, hD10, hz10, nx⟩ => ?_
        exact app_ok (X := Cx.blkH X s3 H3 scope ce fp) I10 hD10 hz10 r10 fun s11 I11 => fin I11 nx
  exact codeAny_compStart_list loop (T.self X.A 0 _ _ _ st4 loop)
theorem pe_lcH {elt tg iter : Expr} {ifs : List Expr} {scope : Scope} {own : List (Str × Nat)} {pos : Pos} {wi : TI} {g : TG} {tt : TT} {te : TE} (hc : HotC X) (hN : X.N.Nodup) (hi : PIH X tg iter wi) (ok : BlkOk X.N X.env.scope scope own)
    (hg : ∀ (s : Shared) (H : Hp) (C : Addr) (cl : List (Str × Addr)) (fp : List Addr), PG (Cx.blkH X s H scope (compEnvC scope cl C X.env) fp) tg g) (ht : ∀ (s : Shared) (H : Hp) (C : Addr) (cl : List (Str × Addr)) (fp : List Addr), PTs (Cx.blkH X s H scope (compEnvC scope cl C X.env) fp) ifs tt)
    (he : ∀ (s : Shared) (H : Hp) (C : Addr) (cl : List (Str × Addr)) (fp : List Addr), PE (Cx.blkH X s H scope (compEnvC scope cl C X.env) fp) elt te) (hs : ∀ x, foldedSetIterable iter X.env x = pure x := by intro _; rfl) :
    PE X (.ListComp elt [⟨tg, iter, ifs, 0⟩] scope pos) (tLc wi g tt te (own.map (·.2))) := by
  refine ⟨fun pins s σ H Q I h => ?_⟩
  rw [eval_ListComp]
  refine lc_coreH hc hN I hi ok hg ht he hs h fun D C s' m H' I' q hn f => ⟨m, hn, fun h'' sb => ?_⟩
  obtain ⟨f0, f1, f2, f3, f4, f5⟩ := f
  exact ⟨.ref D, H', I'.turned (t' := s'.toks) (fun b o hb e => (sb.2 b hb).trans e) f0 f1 f3 f4 f5, rfl, q⟩
end
end L2H

end
section
set_option Elab.async false
set_option linter.all false
set_option maxRecDepth 100000
set_option maxHeartbeats 1000000
namespace L2H
open PySem PySem.Spec PyProof.Rows L2 HotX
/-! ### defs called while an exception is handled, of which C says something -/
structure FnC (C : Addr × Obj → Prop) (P : Program) (w : World) (K : PySem.W.Frag) (mg : Str → Option Value) (base : Heap) (CX : CXT) (k : Nat) (f : Addr) (fd : FuncData) (ps : List Str) (sp : Addr → Sp) : Prop where
  len : ∀ a vs H Q E, sp a vs H Q E → vs.length = ps.length
  run : ∀ (A : Around) (outer : List Env) (s : Shared) (H : Hp) (args : Args) (us : List Value) (vs : List V) (Q : VK) (E : XK) (p : Addr × Obj), RoomH k A → Hot1 A p → C p → PinOk outer H s p → Env0 P w K mg base A outer s H → BindsTo s fd args (ps.zip us) → Vals vs us → sp p.1 vs H Q E →
    codeAny (model P w) A (.call (.ref f) args) (CR CX outer P w H s Q E) s
theorem fn_ofC {C : Addr × Obj → Prop} {CX : CXT} {P : Program} {w : World} {K : PySem.W.Frag} {mg : Str → Option Value} {base : Heap} {k : Nat} {f : Addr} {name qual : Str} {params : Arguments} {body : List Stmt} {scope : Scope} {dV kV doc pm cdv ct oc : Value} {an od : Option Addr}
    {osl : Array (Option Value)} {N ps : List Str} {sp : Addr → Sp} (lk : K.lookup f = some ⟨oc, od, .func (PySem.W.fnOf name qual params body scope dV kV doc pm an cdv ct), osl⟩) (hcd : PySem.W.codeIn K cdv qual = true) (S : FnScope N ps scope)
    (len : ∀ a vs H Q E, sp a vs H Q E → vs.length = ps.length)
    (hbody : ∀ (A : Around) (outer : List Env) (s : Shared) (H : Hp) (vs : List V) (Q : VK) (E : XK) (p : Addr × Obj), Hot1 A p → C p → RoomH k (A.deeper (envOfC qual scope s.heap.objs.size f cdv)) → sp p.1 vs H Q E →
      ∃ t, PSs (cxH CX P w K mg base N qual scope f cdv A outer s H E p) body t ∧ t { nx := fun _ H' => Q .non H', rt := Q } (L2.start N vs) H) :
    FnC C P w K mg base CX (k + 1) f (PySem.W.fnOf name qual params body scope dV kV doc pm an cdv ct) ps sp := by
  refine ⟨len, fun A outer s H args us vs Q E p hr hot hC hpin e0 hb r hsp => ?_⟩
  have hl := len _ _ _ _ _ hsp
  have KX : K.In s.heap := e0.mod.kin.keeps fun b o e => (e0.bs b o e).1
  have lim : s.heap.NoLimit := e0.mod.nolimit.keeps fun b o e => (e0.bs b o e).1
  have hkind : ∀ y ∈ ps.zip us, scope.names.lookup y.1 = some .local ∨ (scope.names.lookup y.1 = some .cell ∧ ((cellsFrom (s.heap.objs.size + 1) scope.names []).lookup y.1).isSome = true) := fun ⟨n, v⟩ hy => by
    rcases S.par n (List.of_mem_zip hy).1 with q | q
    · exact .inl q
    · exact .inr ⟨q, PySem.W.cellsFrom_some _ _ _ (.inl q)⟩
  refine codeAny_call_function hr.depth (KX _ _ lk) rfl S.co S.gen rfl (PySem.W.codeRec_of KX hcd) (hb _ _ _ _ ?_)
  refine wpAny_newFunctionEnv_cells S.kind hkind fun env he s1 x => ?_
  subst he
  refine ⟨lim.keeps x.toInCall.keep, codeAny_func ?_⟩
  obtain ⟨t, ht, hq⟩ := hbody A outer s H vs Q E p hot hC (hr.deeper _) hsp
  have I : Inv (cxH CX P w K mg base N qual scope f cdv A outer s H E p) [] (L2.start N vs) H s1 := inv_startH S hpin e0 hl r x
  refine wpAny_mono (ht.run [] s1 (L2.start N vs) H _ I hq) (fun fl s' hs => ?_) fun e s' hs => hs
  have fin : ∀ {σ' : St} {H' : Hp} {v : V} {u : Value}, Inv (cxH CX P w K mg base N qual scope f cdv A outer s H E p) [] σ' H' s' → RelV v u → Q v H' → CE outer P w H s Q u s' :=
    fun {σ' H' v u} J rv q => ⟨v, H', J.os, J.bare, J.base, J.hok, rv, q⟩
  cases fl with
  | ret u =>
    obtain ⟨v, σ', H', J, rv, q⟩ := hs
    exact fin J rv q
  | next =>
    obtain ⟨σ', H', J, q⟩ := hs
    exact fin (v := V.non) (u := Value.none) J rfl q
  | brk =>
    obtain ⟨_, _, _, q⟩ := hs
    exact False.elim q
  | cont =>
    obtain ⟨_, _, _, q⟩ := hs
    exact False.elim q
section
variable {C : Addr × Obj → Prop} {X : Cx} {CX : CXT} {k : Nat} {f : Addr} {fd : FuncData} {ps : List Str} {sp : Addr → Sp} {E : St → XK} {x : Str} {q pos : Pos} {e : Expr} {es : List Expr} {t : TA}
theorem run_fnC {pins : List (Addr × Obj)} {σ : St} {H : Hp} {s : Shared} {Q : VK} {us : List Value} {vs : List V} {p : Addr × Obj} (F : FnC C X.prog X.w X.K X.mg X.base CX k f fd ps sp) (hr : RoomH k X.A) (hot : Hot1 X.A p) (hC : C p) (hp : p ∈ X.pn) (hb : Binds X.K fd ps []) (hx : PassesAt CX X σ (E σ))
    (I : Inv X pins σ H s) (r : Vals vs us) (h : sp p.1 vs H Q (E σ)) : wpAny (model X.prog X.w) X.A (call (.ref f) us) (EP X pins σ Q) X.xe s := by
  have hl : us.length = ps.length := by rw [← r.length]; exact F.len _ _ _ _ _ h
  have b := hb s us I.kIn (by rw [List.append_nil]; exact hl)
  rw [List.append_nil] at b
  have P1 := I.pin p (List.mem_append_left _ hp)
  have hpin : PinOk X.stack H s p := ⟨P1.1, P1.2.1, fun hm => (List.mem_cons.mp (I.stkSub p.1 hm)).elim P1.2.2.1 P1.2.2.2.1, P1.2.2.2.2⟩
  refine wpAny_call (codeAny_mono (F.run X.A X.stack s H ⟨us, []⟩ us vs Q (E σ) p hr hot hC hpin I.env0 b r h) fun r s' hq => ?_)
  cases r with
  | error e => exact hx pins H s e s' I hq
  | ok fl =>
    cases fl with
    | ret u => exact I.after hq
    | next => exact False.elim hq
    | brk => exact False.elim hq
    | cont => exact False.elim hq
theorem pe_callC {p : Addr × Obj} (F : FnC C X.prog X.w X.K X.mg X.base CX k f fd ps sp) (hr : RoomH k X.A) (hot : Hot1 X.A p) (hC : C p) (hp : p ∈ X.pn) (hg : Gl X x) (hm : X.mg x = some (.ref f)) (hk : PySem.W.keepIn X.K (.ref f) = true) (hb : Binds X.K fd ps []) (hx : ∀ σ, PassesAt CX X σ (E σ))
    (ha : PA X (e :: es) t) (hdb : (x == ("__debug__" : Str)) = false := by decide) (he : starEach (e :: es) X.env = (false, eval e X.env) :: starEach es X.env := by rfl) (hpl : (backTo pos (starEach es X.env)).any (·.1) = false := by rfl) :
    PE X (.Call (.Name x q) (e :: es) [] pos) (tCallS (sp p.1) E t) := by
  refine ⟨fun pins s σ H Q I h => ?_⟩
  refine wpAny_Call_Name_kw (ld_glob I hg hm ?_ hdb)
  refine PySem.W.callWith_K (h₀ := X.base) I.ok.mod.kin hk (thn (ha.run pos pins s σ H _ I h) fun us s1 ⟨vs, H1, I1, r1, q1⟩ => ⟨I1.kIn, ?_⟩) he hpl
  exact run_fnC F hr hot hC hp hb (hx σ) I1 r1 q1
end
end L2H
namespace NcIs
open PySem PySem.W PySem.Spec PySem.Calls PyProof.Rows
section
variable {prog : Program} {w : World} {A : Around} {E : Value → Shared → Prop} {s : Shared} {K : Frag} {x D : Addr} {ox : Obj} {od : Option Obj}
theorem find_data {C : Addr} {name : Str} {a g : Value} (hc : (clsIn K C).isSome = true) (ha : findIn K (.ref C) name = some (some a)) (hg : specialIn K a "__get__" = some (some g)) (ht : takesIn K a = some true) : findObj K C od name = some (.bind g a) := by
  obtain ⟨cd, hc⟩ := Option.isSome_iff_exists.mp hc
  unfold findObj
  rw [hc, Option.bind_some, ha, Option.bind_some]
  simp [hg, ht]
/-- e.__class__ of an exception of an own class, its dict told or not -/
theorem class_of {Q : Option Value → Shared → Prop} (C : L2.ExcC K D) (X : K.In s.heap) (I : InstAt s.heap x ox D od) (h : Q (some (.ref D)) { s with toks := s.toks + 1 }) : wpAny (model prog w) A (getAttr? (.ref x) "__class__") Q E s := by
  have hf : findObj K D od "__class__" = some (.bind (.builtin "getset_descriptor.__get__") (.builtin "object.__class__")) := find_data (by obtain ⟨cd, hc, _⟩ := any_some C.hd; rw [hc]; rfl) C.ha C.hn C.ht
  obtain ⟨hp, g, d, t, os⟩ := s
  have L0 := I.type (M := model prog w)
  have L1 := looks_findIn (M := model prog w) X C.hg
  have L2 := looks_findIn (M := model prog w) X C.hk
  have L3 := looks_find (M := model prog w) X I hf
  have sub : Looks (model prog w) hp (isInstance (.ref x) (.type "BaseException")) true := L0.andThen (looks_subIn X C.hs)
  have b0 : (false && onTheHeap (Value.builtin "BaseException.__getattribute__")) = false := rfl
  have b1 : (onTheHeap (Value.ref D) && Value.builtin "BaseException.__getattribute__" == Value.builtin "object.__getattribute__") = false := by rw [show (Value.builtin "BaseException.__getattribute__" == Value.builtin "object.__getattribute__") = false by decide +kernel]; rfl
  unfold getAttr? getAttrBy? getAttrBy
  refine wpAny_bind (wpAny_mkText (wpAny_bind (wpAny_attempt (wpAny_holding (wpAny_bind (L0.at (wpAny_bind (L1.at ?_))))))))
  show wpAny _ _ (if (onTheHeap (Value.ref D) && Value.builtin "BaseException.__getattribute__" == Value.builtin "object.__getattribute__") = true then _ else _) _ _ _
  rw [b1, if_neg Bool.false_ne_true]
  unfold getAttrByItsOwn hookBefore
  refine wpAny_bind ?_
  rw [if_pos (show onTheHeap (Value.ref D) = true from rfl)]
  refine L2.at (wpAny_bind (wpAny_attempt (wpAny_holding ?_)))
  unfold callGetattribute
  rw [b0, if_neg Bool.false_ne_true]
  unfold boundAndCalled
  rw [PySem.F.excAttr_ValueError.ga.bind (.ref x)]
  refine wpAny_bind (wpAny_pure (wpAny_call (codeAny_call_builtin PySem.F.excAttr_ValueError.ga.plain PySem.F.entry_bexc_ga ?_)))
  refine @check_slot (model prog w) _ _ ⟨hp, g, d, t + 1, os⟩ "BaseException.__getattribute__" "BaseException" "__getattribute__" (.ref x) [.str "__class__" t] [] _ (by decide +kernel) (by decide +kernel) sub (PySem.F.args_bexc_ga (.ref x) (.str "__class__" t)) ?_
  unfold Builtin.«object.__getattribute__»
  refine wpAny_bind (wpAny_of_eq (a := ((Value.ref x : Value), [Value.str "__class__" t])) (by first | rfl | (simp only [slotArgs]; rfl)) (wpAny_bind (wpAny_pure (wpAny_bind (L0.at (wpAny_bind (L3.at ?_)))))))
  show wpAny _ _ (holding [Value.builtin "object.__class__"] (call (.builtin "getset_descriptor.__get__") [.builtin "object.__class__", .ref x, .ref D]) >>= ret) _ _ _
  refine wpAny_bind (wpAny_holding (wpAny_call (class_get (s := ⟨hp, g, d, t + 1, os⟩) (ox := ox) (od := od) X I C.hm (wpAny_pure ?_))))
  show wpAny _ _ (handedOut (.ref D)) _ _ _
  rw [handedOut_of (v := .ref D) rfl]
  first
    | exact wpAny_pure (wpAny_pure h)
    | exact wpAny_pure h
    | exact wpAny_pure (wpAny_bind (wpAny_pure (wpAny_pure h)))
theorem kitx (C : L2.ExcC K D) : KitX K (.ref x) (.ref D) (fun h => InstAt h x ox D od) where
  ty := fun _ _ _ I => I.type
  it := fun _ _ X _ => by
    obtain ⟨cdD, hcD, _⟩ := any_some C.hd
    unfold clsIn at hcD
    split at hcD
    · rename_i ho
      intro A' Q' E' s' k q
      unfold isType loadHead
      exact wpAny_bind (wpAny_loadPart (k _ _ (X _ _ ho)) (wpAny_pure q))
    · cases hcD
  ne := fun h tp dd its n sl X htp => by
    obtain ⟨cdD, hcD, _⟩ := any_some C.hd
    refine Bool.eq_false_iff.mpr fun q => ?_
    have e : D = tp := Value.ref.inj (beq_iff_eq.mp q)
    subst e
    unfold clsIn at hcD
    split at hcD
    · rename_i ho
      have z := (X _ _ ho).symm.trans htp
      cases z
    · cases hcD
  ca := fun X I k => class_of C X I k
end
end NcIs
namespace L2H
open PySem PySem.Spec PyProof.Rows L2 HotX
/-- isinstance(e, c), e the exception that is handled; d: its dict -/
def rIsX (K : PySem.W.Frag) (D a : Addr) (d : Option Addr) : List V → Hp → VK → Prop := fun xs H Q => ∃ (c : V) (cv : Value) (b : Bool), xs = [.ref a, c] ∧ (∀ dd, d = some dd → ∃ fs, H dd = some (.xd fs)) ∧ (∀ u, RelV c u → u = cv) ∧ PySem.W.kitOne K (.ref D) cv = some b ∧ Q (.bl b) H
theorem call_isEH {X : Cx} {a D : Addr} {d : Option Addr} {oe : Obj} (C : ExcC X.K D) (hz : Zc (.ref D) d oe) (hf : ∃ vs, oe.data = .fields vs) (hp : (a, oe) ∈ X.pn) : CallR X (.builtin "isinstance") (rIsX X.K D a d) := by
  intro pins s σ H xs us Q I r h
  obtain ⟨c, cv, b, rfl, hdd, hcv, e, q⟩ := h
  cases r with
  | cons rx rr =>
    cases rr with
    | cons rt rr =>
      cases rr
      cases rx
      have ec := hcv _ rt
      subst ec
      obtain ⟨hget, _⟩ := I.pin (a, oe) (List.mem_append.mpr (.inl hp))
      obtain ⟨vs, hv⟩ := hf
      obtain ⟨oc, od, oda, osl⟩ := oe
      obtain ⟨h1, h2⟩ := hz
      dsimp only at h1 h2 hv
      subst h1 h2 hv
      have fin : ∀ tk, EP X pins σ Q (.bool b) { s with toks := tk } := fun tk => ⟨.bl b, H, I.kept (t' := tk) fun _ _ z => z, rfl, q⟩
      cases od with
      | none => exact PySem.W.kia_one (NcIs.kitx (od := none) C) I.kIn ⟨hget, rfl, rfl, trivial⟩ e (fun z => nomatch z) fin
      | some dd =>
        obtain ⟨fs, hfs⟩ := hdd dd rfl
        obtain ⟨mA, ⟨o, es, ep, ho, _⟩, _⟩ := I.hok dd _ hfs
        exact PySem.W.kia_one (NcIs.kitx (od := some o) C) I.kIn ⟨hget, rfl, rfl, ho⟩ e (fun z => nomatch z) fin
end L2H
namespace L2N
open PySem PySem.Spec PyProof.Rows L2
/-! ### several except clauses, each with a name -/
def goneE (i : Nat) (D : Ends) : Ends := { nx := fun σ' H' => D.nx (σ'.set i none) H', rt := D.rt, bk := fun σ' H' => D.bk (σ'.set i none) H', ct := fun σ' H' => D.ct (σ'.set i none) H' }
def wManyA (K : PySem.W.Frag) (i : Nat) (Wout : WX) (D : Ends) : List (Value × (Addr → Value → Option Addr → TS)) → WX
  | [] => Wout
  | (c, ts) :: r => fun cls d σ H => ∃ b, PySem.W.exmOne K cls c = some b ∧ (b = true → ∀ a, H a = none → ts a cls d (goneE i D) (σ.set i (some (.ref a))) H) ∧ (b = false → wManyA K i Wout D r cls d σ H)
inductive HdsA (X : Cx) (n : Str) : List ExceptHandler → List (Value × (Addr → Value → Option Addr → TS)) → Prop
  | nil : HdsA X n [] []
  | cons {x : Str} {c : Value} {ts : Addr → Value → Option Addr → TS} {b₀ : Stmt} {suite : List Stmt} {np pos' : Pos} {hds : List ExceptHandler} {l : List (Value × (Addr → Value → Option Addr → TS))} (hc : Names X x c)
      (hsu : ∀ (a : Addr) (oe : Obj) (cls : Value) (d : Option Addr) (pn : List (Addr × Obj)), Zn cls d oe → (∃ vs, oe.data = .fields vs) → PSs (X.suite a ((a, oe) :: pn)) (b₀ :: suite) (ts a cls d)) (r : HdsA X n hds l) :
      HdsA X n (.ExceptHandler (some (.Name x np)) (some n) (b₀ :: suite) pos' :: hds) ((c, ts) :: l)
section
variable {X : Cx} {n : Str} {i : Nat} {body : List Stmt} {h₀ : ExceptHandler} {hds : List ExceptHandler} {l : List (Value × (Addr → Value → Option Addr → TS))} {pos : Pos} {tb : WX → TS} {Wout : WX}
theorem ps_try_manyA (hs : X.stack = X.env :: X.outer) (hf : X.env.frame = some X.env.locals) (hN : X.N.Nodup) (hi : X.N[i]? = some n) (hln : X.env.kindOf n = some .local) (tk : Takes X Wout)
    (hb : ∀ (W : WX) (pn : List (Addr × Obj)) (xe : Value → Shared → Prop), Takes (X.tr pn xe) W → PassesOwn (model X.prog X.w) X.A X.env xe → PSs (X.tr pn xe) body (tb W))
    (hh : HdsA X n (h₀ :: hds) l) : PS X (.Try body (h₀ :: hds) [] [] pos) (fun D σ H => tb (wManyA X.K i Wout D l) D σ H) := by
  refine ⟨fun pins s σ H D I h => ?_⟩
  have ok := I.ok
  have hfr : X.A.frames = some (X.env :: X.outer) := by rw [ok.frames, hs]
  have hloc : Loc X.env.scope n := .inl hln
  refine wpAny_Try_except ?_
  refine wpAny_mono ((hb (wManyA X.K i Wout D l) (X.pn ++ pins) (fun e s₁ => wpAny (model X.prog X.w) X.A (noteFrame e X.env) (fun _ s₂ => wpAny (model X.prog X.w) X.A (setFlight e none) (fun _ s₃ =>
    wpAny (model X.prog X.w) X.A (handleBy e X.env (h₀ :: hds)) (SP X pins D) X.xe s₃) X.xe s₂) X.xe s₁) (fun u s' xx => ?_) PassesOwn.looking).run [] s σ H D (I.toTry _) h) (fun f s1 hsp => ?_) (fun e s1 he => he)
  · obtain ⟨a, B, sI, pins', σ', H', cls, d, rfl, J', nb, up, sky, na, os, ag, w⟩ := xx
    have J : Inv X pins σ' H' sI := J'.ofTry ok
    have sky' : Sky B (X.env :: X.outer) a (Zn cls d) X.env.locals s'.heap := by rw [← hs]; exact sky
    show wpAny (model X.prog X.w) X.A (noteFrame (.ref a) X.env) _ _ _
    refine Sky.land Zn.steady hfr hf sky' fun h3 fl3 up3 => ?_
    have J3 : Inv X pins σ' H' { s' with heap := h3 } := J.landed nb fl3.1 (up.trans up3) os ag
    obtain ⟨oe3, vs3, he3, hz3, hd3⟩ := fl3.there
    have notFr : ∀ {h : Heap} {o : Obj} {vs : Array Value}, h.FunFrames B (X.env :: X.outer) → h.get? a = some o → o.data = .fields vs → a ∉ frs (X.env :: X.outer) := fun {h o vs} ff e dd hm => by
      obtain ⟨_, o', e', hnf⟩ := ff.mem hm
      rw [e] at e'; cases e'
      exact hnf _ dd
    have nfr := notFr fl3.2.2.1 he3 hd3
    have nL : a ≠ X.env.locals := fun z => nfr (List.mem_filterMap.mpr ⟨X.env, List.mem_cons_self, by rw [hf, z]⟩)
    have nF : a ∉ X.fs := fun hm => by
      obtain ⟨e, he, q⟩ := List.mem_filterMap.mp hm
      exact nfr (List.mem_filterMap.mpr ⟨e, List.mem_cons_of_mem _ he, q⟩)
    have S3 := J3.suite he3 hd3 na nL nF
    have go : ∀ {hds' : List ExceptHandler} {l' : List (Value × (Addr → Value → Option Addr → TS))}, HdsA X n hds' l' → wManyA X.K i Wout D l' cls d σ' H' →
        wpAny (model X.prog X.w) X.A (handleBy (.ref a) X.env hds') (SP X pins D) X.xe { s' with heap := h3 } := by
      intro hds' l' hk
      induction hk with
      | nil =>
        intro w
        refine wpAny_handleBy_nil ?_
        obtain ⟨k1, k2, k3, oe, vs, T, oT, ts', he, hz, hd, h1, hr⟩ := id fl3
        unfold PySem.passOn
        refine wpAny_bind (wpAny_field he hd h1 ?_)
        rw [if_neg (show ¬ ((Value.ref T == Value.none) = true) from by simp)]
        have fin : wpAny (model X.prog X.w) X.A (setFlight (.ref a) X.env.frame) (fun _ s4 => wpAny (model X.prog X.w) X.A (throw (.ref a) : Sem Flow) (SP X pins D) X.xe s4) X.xe { s' with heap := h3 } := by
          rw [hf]
          refine HandSPX.setFlight_upZ fl3 fun h4 hh4 up4 => wpAny_throw (tk _ _ ?_)
          exact ⟨a, B, sI, pins, σ', H', cls, d, rfl, J, nb, (up.trans up3).trans up4, .inr (.inr (by rw [hs]; exact hh4)), na, os, ag, w⟩
        first
          | exact wpAny_bind (wpAny_pure (wpAny_bind fin))
          | exact wpAny_bind fin
      | @cons x c ts b₀ suite np pos' hds2 l2 hc hsu r ih =>
        intro w
        obtain ⟨b, hb1, hyes, hno⟩ := w
        refine wpAny_handleBy_cons (codeAny_handlers_test ?_) (by intro q; cases q)
        have LT : PySem.W.Looks (model X.prog X.w) h3 (typeOf (.ref a)) cls := fun A Q E s k q => wpAny_typeOf_ref (k _ _ he3) (by rw [hz3.1]; exact q)
        have LM := PySem.W.exm_one (M := model X.prog X.w) (J3.kIn) LT hb1
        have test : ∀ {Q : Value → Shared → Prop} {E : Value → Shared → Prop}, Q c { s' with heap := h3 } → wpAny (model X.prog X.w) (X.A.mark (some (.ref a))) (eval (.Name x np) X.env) Q E { s' with heap := h3 } := fun {Q E} q => by
          obtain ⟨hg, hdbg, hm | ⟨hm, hv, hnn⟩⟩ := hc
          · exact ld_glob (X := X.suite a ((a, oe3) :: (X.pn ++ pins))) S3 hg hm q hdbg
          · exact ld_blt (X := X.suite a ((a, oe3) :: (X.pn ++ pins))) S3 hg hm hv q hnn hdbg
        refine test (LM.here ?_)
        cases b with
        | true =>
          refine codeAny_handlers_suite_as ?_
          refine HandSPX.lands_againZ fl3 fun h4 fl4 up4 => ?_
          have J4 : Inv X pins σ' H' { s' with heap := h4 } := J.landed nb fl4.1 ((up.trans up3).trans up4) os ag
          obtain ⟨oe4, vs4, he4, hz4, hd4⟩ := fl4.there
          have S4 := J4.suite he4 hd4 na nL nF
          refine store_ok (X := X.suite a ((a, oe4) :: (X.pn ++ pins))) (v := .ref a) S4 hN hi hloc rfl (fun s5 S5 => ?_) (.inr hln)
          refine wpAny_mono ((hsu a oe4 cls d (X.pn ++ pins) hz4 ⟨_, hd4⟩).run [] s5 _ H' _ S5 (hyes rfl a na)) (fun f s6 hsp => ?_) (fun _ _ z => False.elim z)
          have end_ : ∀ {σ6 : St} {H6 : Hp} {Q : Shared → Prop}, Inv (X.suite a ((a, oe4) :: (X.pn ++ pins))) [] σ6 H6 s6 → (∀ s7, Inv X pins (σ6.set i none) H6 s7 → Q s7) →
              wpAny (model X.prog X.w) X.A (do bindName X.env n .none; unbindBehindTheSuite X.env n pos') (fun _ s7 => Q s7) X.xe s6 := fun {σ6 H6 Q} S6 hq => gone_ok (S6.unsuite ok) hN hi hln hq
          cases f with
          | next =>
            obtain ⟨σ6, H6, S6, q6⟩ := hsp
            exact end_ S6 fun s7 J7 => ⟨_, _, J7, q6⟩
          | brk =>
            obtain ⟨σ6, H6, S6, q6⟩ := hsp
            exact end_ S6 fun s7 J7 => ⟨_, _, J7, q6⟩
          | cont =>
            obtain ⟨σ6, H6, S6, q6⟩ := hsp
            exact end_ S6 fun s7 J7 => ⟨_, _, J7, q6⟩
          | ret u =>
            obtain ⟨v6, σ6, H6, S6, r6, q6⟩ := hsp
            exact end_ S6 fun s7 J7 => ⟨_, _, _, J7, r6, q6⟩
        | false =>
          show wpAny _ X.A (handleBy (.ref a) X.env hds2) _ _ _
          exact ih (hno rfl)
    exact go hh w
  · cases f with
    | next =>
      obtain ⟨σ', H', J', q⟩ := hsp
      exact wpAny_execs_nil ⟨σ', H', J'.ofTry ok, q⟩
    | brk =>
      obtain ⟨σ', H', J', q⟩ := hsp
      exact ⟨σ', H', J'.ofTry ok, q⟩
    | cont =>
      obtain ⟨σ', H', J', q⟩ := hsp
      exact ⟨σ', H', J'.ofTry ok, q⟩
    | ret u =>
      obtain ⟨v, σ', H', J', r, q⟩ := hsp
      exact ⟨v, σ', H', J'.ofTry ok, r, q⟩
end
end L2N

end
section
set_option Elab.async false
set_option linter.all false
set_option maxRecDepth 100000
set_option maxHeartbeats 1000000
/-! a lambda without parameters handed to a def that catches what it raises: the exceptions' context is None (ExcCtx), unlike in HandS.Lambda -/
namespace LamN
open PySem PySem.Spec PyProof.Rows L2 LamX
section
variable {X : Cx} {pins : List (Addr × Obj)} {σ : L2.St} {H HZ : Hp} {s s1 : Shared}
abbrev lamCxN (X : Cx) (A : Around) (outer : List Env) (s : Shared) (H : Hp) (E : XK) (scope : Scope) (f c' : Addr) : Cx :=
  (lamCx X A outer s H E scope f c').wish fun e s' => wpAny (model X.prog X.w) (A.deeper (lamEnv X scope s.heap.objs.size f c')) (leaving (lamEnv X scope s.heap.objs.size f c') e) (fun _ s'' => L2N.CX X.prog X.w outer H s E e s'') (fun e' s'' => L2N.CX X.prog X.w outer H s E e' s'') s'
theorem lam_takes {A : Around} {outer : List Env} {E : XK} {scope : Scope} {f c' : Addr} : L2N.Takes (lamCxN X A outer s H E scope f c') (fun cls d _ H' => E cls d H') := L2N.takes_of rfl rfl rfl rfl
theorem pe_actN {CXg : CXT} {Eg : XK} {Ng : List Str} {qg : Str} {sg : Scope} {g f c' : Addr} {cdg pm ctv : Value} {params : Arguments} {body : Expr} {scope : Scope} {k i : Nat} {a : Str} {pn : List (Addr × Obj)} {xe : Value → Shared → Prop} {W : WX} {tb : XK → TE} {p1 p2 : Pos}
    (I : Inv X pins σ H s) (L : LamS X.env.scope scope) (hf : s.heap.get? f = some (PySem.W.kla_obj "<lambda>" (X.env.qual ++ "<lambda>") params body scope (cloFrom X.env.cells scope.names []) pm c' ctv)) (hfn : H f = none) (hfr : f ∉ frs X.stack)
    (hbind : bindArgs (PySem.W.kla_fn "<lambda>" (X.env.qual ++ "<lambda>") params body scope (cloFrom X.env.cells scope.names []) pm (.ref c') ctv) ⟨[], []⟩ = pure [])
    (tk : L2N.Takes ((cxOf CXg X.prog X.w X.K X.mg X.base Ng qg sg g cdg X.A X.stack s H Eg).tr pn xe) W) (hr : Room (k + 1) (X.A.deeper (envOfC qg sg s.heap.objs.size g cdg)))
    (hbody : ∀ (A : Around) (outer : List Env) (s : Shared) (H : Hp) (E : XK), Room k (A.deeper (lamEnv X scope s.heap.objs.size f c')) → PE (lamCxN X A outer s H E scope f c') body (tb E))
    (hN : Ng[i]? = some a) (hv : Vis sg a) (hd : (a == ("__debug__" : Str)) = false := by decide) (hcd : (a == ("__classdict__" : Str)) = false := by decide) :
    PE ((cxOf CXg X.prog X.w X.K X.mg X.base Ng qg sg g cdg X.A X.stack s H Eg).tr pn xe) (.Call (.Name a p1) [] [] p2)
      (fun σZ HZ Q => σZ[i]? = some (some (.ref f)) ∧ HZ c' = some (CodeO c' (X.env.qual ++ "<lambda>")) ∧ tb (WE W σZ) σ HZ Q) := by
  refine ⟨fun pinsZ sZ σZ HZ Q IZ h => ?_⟩
  obtain ⟨hs, hc, ht⟩ := h
  refine wpAny_Call_Name_kw (thn ((pe_var (pos := p1) (i := i) hN hv hd hcd).run pinsZ sZ σZ HZ (fun v H1 => v = .ref f ∧ H1 = HZ) IZ ⟨.ref f, hs, rfl, rfl⟩) fun u s1 ⟨v, H1, I1, r1, q1⟩ => ?_)
  obtain ⟨ev, eH⟩ := q1
  subst ev
  rw [eH] at I1
  obtain rfl : u = Value.ref f := r1
  have of1 : s1.heap.get? f = some (PySem.W.kla_obj "<lambda>" (X.env.qual ++ "<lambda>") params body scope (cloFrom X.env.cells scope.names []) pm c' ctv) := I1.base.keep f _ hf hfn hfr (fun z => nomatch (show f ∈ ([] : List Addr) from z))
  refine PySem.W.callWith_F0 ⟨_, _, _, _, of1⟩ ?_
  have un : Un (frs X.stack) [] H HZ s.heap s1.heap := I1.base
  obtain ⟨⟨oc, vs, t, hoc, hdc, hvc⟩, _, _⟩ := I1.hok c' _ hc
  have rc : codeAny (model X.prog X.w) (X.A.deeper (envOfC qg sg s.heap.objs.size g cdg)) (.call (.ref f) ⟨[], []⟩) (CR (L2N.CX X.prog X.w) (envOfC qg sg s.heap.objs.size g cdg :: X.stack) X.prog X.w HZ s1 Q (WE W σZ)) s1 := by
    refine PySem.W.kla_callFunE hr.depth of1 rfl L.co L.gen rfl ⟨c', oc, vs, t, rfl, hoc, hdc, hvc⟩ ?_
    rw [hbind]
    refine wpAny_pure (wpAny_newFunctionEnv (fun y hy => (L.own y hy).2) (fun y hy => absurd hy (by simp)) (fun h₁ hns hsb => ⟨I1.nolimit.fresh _ hsb, ?_⟩) L.kind)
    show codeAny _ _ (.expr body (lamEnv X scope s1.heap.objs.size f c')) _ _
    have kp : ∀ b o, s1.heap.get? b = some o → h₁.get? b = some o := fun b o e => hsb.extBut b o (Nat.ne_of_lt (Heap.lt_size e)) (Heap.get?_push_of_some _ e)
    have J : Inv (lamCx X (X.A.deeper (envOfC qg sg s.heap.objs.size g cdg)) (envOfC qg sg s.heap.objs.size g cdg :: X.stack) s1 HZ (WE W σZ) scope f c') [] σ HZ { s1 with heap := h₁, toks := s1.toks + ([] : List (Str × Value)).length } :=
      lam_start2 I L I1.env0 hr.hd un hns kp
    refine PySem.W.kla_codeExpr (wpAny_mono ((hbody _ _ s1 HZ (WE W σZ) (hr.deeper _)).run [] _ _ HZ Q (J.wish _) ht) (fun v s' hq => ?_) fun e s' hq => hq)
    obtain ⟨w', H', J', rv, q⟩ := hq
    exact ⟨w', H', J'.os, J'.bare, J'.base, J'.hok, rv, q⟩
  refine wpAny_call (codeAny_mono rc fun r s' hq => ?_)
  cases r with
  | error e => exact L2N.passAt tk σZ pinsZ HZ s1 e s' I1 hq
  | ok fl =>
    cases fl with
    | ret u => exact I1.after hq
    | next => exact False.elim hq
    | brk => exact False.elim hq
    | cont => exact False.elim hq
end
/-- what the def that gets the lambda makes of its reading tl -/
def GivesN (X : Cx) (Ng : List Str) (x : Str) (sg : Scope) (g : Addr) (cdg : Value) (bg : List Stmt) (a : Str) (q : Str) (TT : (XK → Hp → VK → Prop) → Hp → VK → Prop) : Prop :=
  ∀ (f c' : Addr) (s : Shared) (H : Hp) (Q : VK) (tl : XK → Hp → VK → Prop), Room 3 (X.A.deeper (envOfC x sg s.heap.objs.size g cdg)) →
    (∀ (W : WX) (pn : List (Addr × Obj)) (xe : Value → Shared → Prop) (p1 p2 : Pos), L2N.Takes ((cxOf C8.CX0 X.prog X.w X.K X.mg X.base Ng x sg g cdg X.A X.stack s H C8.E0).tr pn xe) W →
      PE ((cxOf C8.CX0 X.prog X.w X.K X.mg X.base Ng x sg g cdg X.A X.stack s H C8.E0).tr pn xe) (.Call (.Name a p1) [] [] p2) (fun σZ HZ Q => σZ[0]? = some (some (.ref f)) ∧ HZ c' = some (CodeO c' q) ∧ tl (WE W σZ) HZ Q)) →
    H c' = some (CodeO c' q) → TT tl H Q →
    ∃ t, PSs (cxOf C8.CX0 X.prog X.w X.K X.mg X.base Ng x sg g cdg X.A X.stack s H C8.E0).nox bg t ∧ t { nx := fun _ H' => Q .non H', rt := Q } (L2.start Ng [.ref f]) H
section
variable {X : Cx}
theorem pe_lamcallN {T : List (Addr × Str)} {TT : (XK → Hp → VK → Prop) → Hp → VK → Prop} {x a : Str} {g c P : Addr} {k : Nat} {pg : Arguments} {bg : List Stmt} {sg : Scope} {dV kV doc pm cdv ct oc : Value} {an od : Option Addr} {osl : Array (Option Value)} {Ng : List Str}
    {params : Arguments} {body : Expr} {scope : Scope} {t : XK → TE} {p lpos pos : Pos} (hg : Gl X x) (hm : X.mg x = some (.ref g)) (hk : PySem.W.keepIn X.K (.ref g) = true)
    (lk : X.K.lookup g = some ⟨oc, od, .func (PySem.W.fnOf x x pg bg sg dV kV doc pm an cdv ct), osl⟩) (hcg : PySem.W.codeIn X.K cdv x = true) (hb : L2.Binds X.K (PySem.W.fnOf x x pg bg sg dV kV doc pm an cdv ct) [a] []) (Sg : FnScope Ng [a] sg) (hNg : Ng[0]? = some a) (hva : Vis sg a)
    (hG : GivesN X Ng x sg g cdv bg a (X.env.qual ++ "<lambda>") TT)
    (TB : TabB X.base X.mg c P) (hcode : X.env.code = .ref c) (hmT : (P, X.env.qual ++ "<lambda>") ∈ T) (hu : ∀ p ∈ T, p.1 = P → p.2 = X.env.qual ++ "<lambda>") (hr : Room (k + 5) X.A) (L : LamS X.env.scope scope) (hdef : defaultsOf params X.env = ([], []))
    (hbind : ∀ (q : Str) (cl : List (Str × Addr)) (pm cv ctv : Value), bindArgs (PySem.W.kla_fn "<lambda>" q params body scope cl pm cv ctv) ⟨[], []⟩ = pure [])
    (hbody : ∀ (A : Around) (outer : List Env) (s : Shared) (H : Hp) (E : XK) (f c' : Addr), Room k (A.deeper (lamEnv X scope s.heap.objs.size f c')) → PE (lamCxN X A outer s H E scope f c') body (t E))
    (hdb : (x == ("__debug__" : Str)) = false := by decide) (hd : (a == ("__debug__" : Str)) = false := by decide) (hcd : (a == ("__classdict__" : Str)) = false := by decide) :
    PE X (.Call (.Name x p) [.Lambda params body scope lpos] [] pos) (tLam T TT t) := by
  refine ⟨fun pins s σ H Q I h => ?_⟩
  obtain ⟨hT, h⟩ := h
  refine wpAny_Call_Name_kw (ld_glob I hg hm ?_ hdb)
  refine PySem.W.callWith_K (h₀ := X.base) I.ok.mod.kin hk ?_ (by rfl) (by rfl)
  show wpAny _ _ (spliced ((false, eval (.Lambda params body scope lpos) X.env) :: backTo pos (starEach [] X.env))) _ _ s
  refine Calls.spliced_cons (lam_make2 I TB hcode hmT hu hT hdef (L.has I.ok) fun f c' pm' ctv H1 s' I1 eN T1 hf hfn hfr hco => ?_)
  refine Calls.spliced_nil ⟨I1.kIn, ?_⟩
  have hr1 : Room (k + 4 + 1) X.A := hr
  have rc : codeAny (model X.prog X.w) X.A (.call (.ref g) ⟨[.ref f], []⟩) (CR C8.CX0 X.stack X.prog X.w H1 s' Q C8.E0) s' := by
    refine run_ofS (N := Ng) (ps := [a]) (us := [.ref f]) (vs := [.ref f]) lk hcg Sg hr1 I1.env0 (hb s' [.ref f] I1.kIn rfl) (.cons rfl .nil) rfl fun hr' => ?_
    obtain ⟨t', ht', hq'⟩ := hG f c' s' H1 Q (fun E H' Q' => t E σ H' Q') (hr'.mono (by omega)) (fun W pn xe p1 p2 tk => pe_actN (i := 0) I1 L hf hfn hfr (hbind _ _ _ _ _) tk (hr'.mono (show k + 1 ≤ k + 4 by omega)) (fun A outer s H E hr2 => hbody A outer s H E f c' hr2) hNg hva hd hcd) hco (h H1 eN T1)
    exact ⟨t', ht'.nox, hq'⟩
  refine wpAny_call (codeAny_mono rc fun r s2 hq => ?_)
  cases r with
  | error e => exact (show False from hq).elim
  | ok fl =>
    cases fl with
    | ret u => exact I1.after hq
    | next => exact False.elim hq
    | brk => exact False.elim hq
    | cont => exact False.elim hq
end
end LamN

end
section
set_option Elab.async false
set_option linter.all false
set_option maxRecDepth 100000
set_option maxHeartbeats 1000000
namespace NC
open PySem PySem.Spec PyProof.Rows L2 RZ
section
variable {X : Cx} {R : Rz}
theorem DSs.imp {st : List Stmt} {t t' : TSd} (h : DSs X R st t) (i : ∀ D ρ M, t' D ρ M → t D ρ M) : DSs X R st t' := by
  obtain ⟨ht, p, k⟩ := h.ex
  exact ⟨ht, p, fun Z σ H M ρ D D' s en l kk tt => k Z σ H M ρ D D' s en l kk (i _ _ _ tt)⟩
/-- a suite's wish, told of the layer below -/
def upSs (K : PySem.W.Frag) (W : WX) (tb : (Value → List (Str × P) → Rho → Mm → Prop) → TSd) : TS := fun D' σ H => ∃ Ψ Z M ρ D, St K Z M H ∧ EnvOk K Z ρ σ ∧ Lk K ⟨W, Ψ⟩ Z M H ∧ EndsOk K Z M H D D' ∧ tb Ψ D ρ M
/-! ### try, with several clauses that bear one name -/
/-- the exception that is handled: its dict holds one int, or it has none -/
def exP (a : Addr) : Option (Addr × Int) → P
  | none => .ref a
  | some (d, n) => .exn a d n
theorem exP_is {K : PySem.W.Frag} {Z : Hp} {a : Addr} {o : Option (Addr × Int)} {v : V} (h : Is K Z (exP a o) v) : v = .ref a ∧ ∀ dd, o.map (·.1) = some dd → ∃ fs, Z dd = some (.xd fs) := by
  match o, h with
  | none, h => exact ⟨h, fun dd e => by cases e⟩
  | some (d, n), h => exact ⟨h.1, fun dd e => by cases e; exact ⟨_, h.2⟩⟩

def goneD (i : Nat) (D : DEnds) : DEnds := { nx := fun ρ M => D.nx (wipeR.unput ρ i) M, rt := D.rt, bk := fun ρ M => D.bk (wipeR.unput ρ i) M, ct := fun ρ M => D.ct (wipeR.unput ρ i) M }
def fsOf : Option Int → List (Str × P)
  | none => []
  | some n => [("limit", .int n)]
abbrev Clause := Value × (Addr → Value → Option (Addr × Int) → TSd)
def dMany (K : PySem.W.Frag) (i : Nat) (D : DEnds) (Ψ0 : Value → List (Str × P) → Rho → Mm → Prop) : List Clause → Value → List (Str × P) → Rho → Mm → Prop
  | [] => Ψ0
  | (c, ts) :: r => fun cls fs ρ M => ∃ n, fs = fsOf n ∧ ∃ b, PySem.W.exmOne K cls c = some b ∧ (b = true → ∀ a o, o.map (·.2) = n → ts a cls o (goneD i D) (put ρ i (exP a o)) M) ∧ (b = false → dMany K i D Ψ0 r cls fs ρ M)
def upCl (K : PySem.W.Frag) (c : Clause) : Value × (Addr → Value → Option Addr → TS) :=
  (c.1, fun a cls d D' σ H => ∃ o : Option (Addr × Int), d = o.map (·.1) ∧ ∃ Z M ρ D, St K Z M H ∧ EnvOk K Z ρ σ ∧ EndsOk K Z M H D D' ∧ c.2 a cls o D ρ M)
inductive HdsD (X : Cx) (n : Str) : List ExceptHandler → List Clause → Prop
  | nil : HdsD X n [] []
  | cons {x : Str} {c : Value} {ts : Addr → Value → Option (Addr × Int) → TSd} {b₀ : Stmt} {suite : List Stmt} {np pos' : Pos} {hds : List ExceptHandler} {l : List Clause} (hc : Names X x c)
      (hsu : ∀ (a : Addr) (oe : Obj) (cls : Value) (o : Option (Addr × Int)) (pn : List (Addr × Obj)), L2N.Zn cls (o.map (·.1)) oe → (∃ vs, oe.data = .fields vs) → DSs (X.suite a ((a, oe) :: pn)) R0 (b₀ :: suite) (ts a cls o)) (r : HdsD X n hds l) :
      HdsD X n (.ExceptHandler (some (.Name x np)) (some n) (b₀ :: suite) pos' :: hds) ((c, ts) :: l)
theorem HdsD.low {n : Str} {hds : List ExceptHandler} {l : List Clause} (h : HdsD X n hds l) : L2N.HdsA X n hds (l.map (upCl X.K)) := by
  induction h with
  | nil => exact .nil
  | cons hc hsu r ih =>
    refine .cons hc (fun a oe cls d pn hz hf => ⟨fun pins s σ H D' I hw => ?_⟩) ih
    obtain ⟨o, rfl, Z, M, ρ, D, s1, en, ee, tt⟩ := hw
    obtain ⟨ht, p, k⟩ := (hsu a oe cls o pn hz hf).ex
    exact p.run pins s σ H D' I (k Z σ H M ρ D D' s1 en .zero ee tt)
theorem EndsOk.gone {K : PySem.W.Frag} {Z : Hp} {M : Mm} {H : Hp} {D : DEnds} {D' : Ends} (i : Nat) (e : EndsOk K Z M H D D') : EndsOk K Z M H (goneD i D) (L2N.goneE i D') :=
  have g : ∀ {Φ : Rho → Mm → Prop} {Q : L2.St → Hp → Prop}, Kn K Z M H Φ Q → Kn K Z M H (fun ρ M => Φ (wipeR.unput ρ i) M) (fun σ H => Q (σ.set i none) H) := fun {Φ Q} k ρ1 σ1 Z1 M1 H1 s r en q => k _ _ Z1 M1 H1 s r (by rw [unput_eq]; exact en.unset i) q
  ⟨g e.nx, e.rt, g e.bk, g e.ct⟩
/-- what stands of the exception, as the suite sees it -/
theorem exn_of {K : PySem.W.Frag} {Z : Hp} {M : Mm} {H : Hp} {d : Option Addr} {n : Option Int} (x : ExD K Z M H (fsOf n) d) : ∃ o : Option (Addr × Int), o.map (·.2) = n ∧ d = o.map (·.1) ∧ ∀ a, Is K Z (exP a o) (V.ref a) := by
  cases n with
  | none =>
    rcases x with ⟨_, h⟩ | ⟨h, _⟩
    · exact ⟨none, rfl, h, fun a => rfl⟩
    · exact absurd rfl h
  | some n =>
    rcases x with ⟨h, _⟩ | ⟨_, a', vs, ed, hz, v, r, e1, av, e2⟩
    · cases h
    · have ev : v = .int n := av
      have er : r = [] := e2
      rw [ev, er] at e1
      rw [e1] at hz
      exact ⟨some (a', n), rfl, ed, fun a => ⟨rfl, hz⟩⟩
theorem many_low {K : PySem.W.Frag} {i : Nat} {D : DEnds} {D' : Ends} {Ψ0 : Value → List (Str × P) → Rho → Mm → Prop} {W0 : WX} {Z : Hp} {M : Mm} {H : Hp} (lk : Lk K ⟨W0, Ψ0⟩ Z M H) (ee : EndsOk K Z M H D D') :
    ∀ l : List Clause, Lk K ⟨L2N.wManyA K i W0 D' (l.map (upCl K)), dMany K i D Ψ0 l⟩ Z M H
  | [] => lk
  | (c, ts) :: r => fun cls fs d ρ1 σ1 Z1 M1 H1 s1 r1 e1 x1 q1 => by
    obtain ⟨n, hfs, b, e, hy, hn⟩ := q1
    obtain ⟨o, ho, hd, hi⟩ := exn_of (n := n) (hfs ▸ x1)
    refine ⟨b, e, fun hb a ha => ⟨o, hd, Z1, M1, put ρ1 i (exP a o), goneD i D, s1, e1.put (hi a) i, (ee.next r1).gone i, hy hb a o ho⟩, fun hb => many_low lk ee r cls fs d ρ1 σ1 Z1 M1 H1 s1 r1 e1 x1 (hn hb)⟩
theorem ds_tryA {n : Str} {i : Nat} {body : List Stmt} {h₀ : ExceptHandler} {hds : List ExceptHandler} {l : List Clause} {pos : Pos} {tb : (Value → List (Str × P) → Rho → Mm → Prop) → TSd} (hs : X.stack = X.env :: X.outer) (hf : X.env.frame = some X.env.locals) (hN : X.N.Nodup) (hi : X.N[i]? = some n) (hln : X.env.kindOf n = some .local) (tk : L2N.Takes X R.W)
    (hb : ∀ (W : WX) (Ψ : Value → List (Str × P) → Rho → Mm → Prop) (pn : List (Addr × Obj)) (xe : Value → Shared → Prop), L2N.Takes (X.tr pn xe) W → PassesOwn (model X.prog X.w) X.A X.env xe → DSs (X.tr pn xe) ⟨W, Ψ⟩ body (tb Ψ))
    (hh : HdsD X n (h₀ :: hds) l) : DS X R (.Try body (h₀ :: hds) [] [] pos) (fun D ρ M => tb (dMany X.K i D R.Ψ l) D ρ M) := by
  refine ⟨_, L2N.ps_try_manyA (i := i) (tb := fun W => upSs X.K W tb) hs hf hN hi hln tk (fun W pn xe tk2 po => ⟨fun pins s σ H D' I hw => ?_⟩) hh.low, fun Z σ H M ρ D D' s en lk kk tt => ?_⟩
  · obtain ⟨Ψ, Z, M, ρ, D, s1, en, lk, ee, tt⟩ := hw
    obtain ⟨ht, p, k⟩ := (hb W Ψ pn xe tk2 po).ex
    exact p.run pins s σ H D' I (k Z σ H M ρ D D' s1 en lk ee tt)
  · exact ⟨_, Z, M, ρ, D, s, en, many_low lk kk l, kk, tt⟩
/-! ### comprehensions while an exception is handled -/
structure DIH (X : Cx) (R : Rz) (tg iter : Expr) (t : TId) : Prop where
  ex : ∃ wi : TI, L2H.PIH X tg iter wi ∧ ∀ Z σ H M ρ Φ (Q : It → Hp → Prop), St X.K Z M H → EnvOk X.K Z ρ σ → Lk X.K R Z M H → t ρ M Φ →
    (∀ items J Z1 M1 H1, St X.K Z1 M1 H1 → Tr Z M H Z1 M1 H1 → WalkP X.K J Z1 items → Φ items M1 → Q J H1) → wi σ H Q
def iZipL (t : TDa) : TId := fun ρ M Φ => t ρ M fun ps M1 => match ps with
  | [.lst xs, .lst ys] => Φ (pairUp xs ys) M1
  | _ => False
theorem di_zipH {e e2 : Expr} {t : TDa} {p pos tpos : Pos} {elts : List Expr} {kk : Nat} (hg : Gl X "zip") (hm : X.mg "zip" = none) (ha : DA X R [e, e2] t)
    (hs : starEach [e, e2] X.env = (false, eval e X.env) :: starEach [e2] X.env := by rfl) (hpl : (backTo pos (starEach [e2] X.env)).any (·.1) = false := by rfl) : DIH X R (.Tuple elts kk tpos) (.Call (.Name "zip" p) [e, e2] [] pos) (iZipL t) := by
  obtain ⟨g1, p1, k1⟩ := ha.ex
  refine ⟨_, L2H.pi_zipH hg hm p1 hs hpl, fun Z σ H M ρ Φ Q s en l t k => k1 Z σ H M ρ _ _ s en l t fun ps vs Z1 M1 H1 s1 r1 a1 q1 => ?_⟩
  match ps, q1 with
  | [.lst xs, .lst ys], q1 =>
    obtain ⟨v, u, e, b1, b2⟩ := isL_two a1
    obtain ⟨a, vs, ex, hx, lx⟩ := b1
    obtain ⟨b, ws, ey, hy, ly⟩ := b2
    refine ⟨a, b, vs, ws, by rw [e, ex, ey], sqL_rd s1.z hx, sqL_rd s1.z hy, k _ _ Z1 M1 H1 s1 r1 ?_ q1⟩
    exact walkP_pair (walk_zip (K := X.K) (a := a) (b := b) (xs := vs) (ys := ws) rfl) (by rw [lx.length, ly.length]) (fun i x h => lx.get h) (fun i x h => ly.get h) fun Z2 H2 e1 e2 => ⟨sqL_rd (e1.trans e2) hx, sqL_rd (e1.trans e2) hy⟩
theorem dgc_tupH {vs : List Nat} {es : List Expr} {k : Nat} {t : TGds} {n : Nat} {pos} (hc : L2H.HotC X) (h : DGcs X vs es t) (hn : (assignEach es X.env).length = n := by rfl) (hst : (assignEach es X.env).findIdx? (·.1) = none := by rfl) : DGc X vs (.Tuple es k pos) (gdTup n t) := by
  obtain ⟨g1, p1, k1⟩ := h.ex
  refine ⟨_, L2H.pg_tupH hc p1 hn hst, fun Z σ H M ρ p v Φ Q s en a g kk => ?_⟩
  cases p <;> first | exact g.elim | skip
  rename_i xs
  obtain ⟨b, ws, ex, hq, l⟩ := a
  exact ⟨b, ws, ex, seqT_same s.z hq, by rw [← l.length]; exact g.1, k1 Z σ H M ρ xs ws Φ Q s en l g.2 kk⟩
abbrev BlkH (X : Cx) (scope : Scope) (F : Cx → Prop) : Prop := ∀ (s : Shared) (H : Hp) (C : Addr) (cl : List (Str × Addr)) (fp : List Addr), F (L2H.Cx.blkH X s H scope (compEnvC scope cl C X.env) fp)
theorem de_lcH {elt tg iter : Expr} {ifs : List Expr} {scope : Scope} {own : List (Str × Nat)} {pos : Pos} {ti : TId} {g : TGd} {tt : TDt} {te : TD} (hc : L2H.HotC X) (hN : X.N.Nodup) (hi : DIH X R tg iter ti) (ok : BlkOk X.N X.env.scope scope own)
    (hg : BlkH X scope fun Y => DGc Y (own.map (·.2)) tg g) (ht : BlkH X scope fun Y => DTs Y R0 ifs tt) (he : BlkH X scope fun Y => DE Y R0 elt te) (hs : ∀ x, foldedSetIterable iter X.env x = pure x := by intro _; rfl) :
    DE X R (.ListComp elt [⟨tg, iter, ifs, 0⟩] scope pos) (dLc ti g tt te (own.map (·.2))) := by
  obtain ⟨wi, p1, k1⟩ := hi.ex
  refine de_of (L2H.pe_lcH (g := upG X.K (own.map (·.2)) g) (tt := upT X.K R0 tt) (te := upE X.K R0 te) hc hN p1 ok (fun s H C cl fp => (hg s H C cl fp).up) (fun s H C cl fp => (ht s H C cl fp).up) (fun s H C cl fp => (he s H C cl fp).up) hs) fun Z σ H M ρ Φ Q s en l t k => ?_
  exact lc_up (fr := true) k1 ⟨Z, M, ρ, Φ, s, en, l, t, k⟩
/-! ### isinstance(e, C) of the exception that is handled -/
def clsOf : P → Option Value
  | .ref C => some (.ref C)
  | .ty n => some (.type n)
  | _ => none
def isEW (K : PySem.W.Frag) (D a : Addr) (o : Option (Addr × Int)) : WL := fun ps M Φ => match ps with
  | [q, c] => q = exP a o ∧ ∃ cv k, clsOf c = some cv ∧ PySem.W.kitOne K (.ref D) cv = some k ∧ Φ (.bl k) M
  | _ => False
theorem cd_isE {a D : Addr} {o : Option (Addr × Int)} {oe : Obj} (C : ExcC X.K D) (hz : Zc (.ref D) (o.map (·.1)) oe) (hf : ∃ vs, oe.data = .fields vs) (hp : (a, oe) ∈ X.pn) : CallD X (.builtin "isinstance") (isEW X.K D a o) := by
  refine ⟨_, L2H.call_isEH C hz hf hp, fun Z M H ps vs Φ Q s aa t k => ?_⟩
  match ps, t with
  | [q, c], t =>
    obtain ⟨v, u, e, b1, b2⟩ := isL_two aa
    obtain ⟨rfl, cv, kk, h1, h2, q⟩ := t
    obtain ⟨ev, hd⟩ := exP_is b1
    refine ⟨u, cv, kk, by rw [e, ev], fun dd hdd => (hd dd hdd).imp fun fs z => s.z _ _ z, fun w hw => ?_, h2, k _ _ Z M H s .refl (show Is X.K Z (.bl _) (.bl _) from rfl) q⟩
    cases c <;> first | (cases h1; done) | skip
    · cases h1
      have eu : u = .ref _ := b2
      rw [eu] at hw
      exact hw
    · cases h1
      have eu : u = .ty _ := b2
      rw [eu] at hw
      exact hw
/-! ### defs called while an exception is handled -/
theorem passLH {Y : Cx} {σ : L2.St} : PassesAt (L2N.CX Y.prog Y.w) Y σ L2.E0 := fun _ _ _ _ _ _ h => by
  obtain ⟨_, _, _, _, _, _, _, _, _, _, _, _, z⟩ := h
  exact z.elim
abbrev FnCP (C : Addr × Obj → Prop) (P : Program) (w : World) (K : PySem.W.Frag) (mg : Str → Option Value) (base : Heap) (k : Nat) (f : Addr) (fd : FuncData) (ps : List Str) (sp : Addr → DSp) : Prop := L2H.FnC C P w K mg base (L2N.CX P w) k f fd ps fun a => upS K ps.length (sp a)
theorem fnc_of {C : Addr × Obj → Prop} {P : Program} {w : World} {K : PySem.W.Frag} {mg : Str → Option Value} {base : Heap} {x qual : Str} {params : Arguments} {body : List Stmt} {scope : Scope} {f : Addr} {fd : FuncData} {N ps : List Str} {k : Nat} {sp : Addr → DSp} (F : FunD K x qual params body scope [] [] f fd) (S : FnScope N ps scope)
    (hbody : ∀ (cdv : Value) (A : Around) (outer : List Env) (s : Shared) (H : Hp) (E : XK) (p : Addr × Obj), L2H.Hot1 A p → C p → L2H.RoomH k (A.deeper (envOfC qual scope s.heap.objs.size f cdv)) →
      ∃ t, DSs (L2H.cxH (L2N.CX P w) P w K mg base N qual scope f cdv A outer s H E p) R0 body t ∧ ∀ ds M Φ Ψ, ds.length = ps.length → sp p.1 ds M Φ Ψ → t (EndsR Φ) (startR N ds) M) : FnCP C P w K mg base (k + 1) f fd ps sp := by
  obtain ⟨oc, od, dV, kV, doc, pm, an, cdv, ct, osl, rfl, lk, hcd, _, _⟩ := F.ex
  refine L2H.fn_ofC lk hcd S (fun a vs H Q E ⟨Z, M, ds, Φ, Ψ, _, b, c, _⟩ => by rw [← b.length]; exact c) fun A outer s H vs Q E p hot hC hr h => ?_
  obtain ⟨Z, M, ds, Φ, Ψ, st, l, hn, hsp, kp, kx⟩ := h
  obtain ⟨t, ht, rd⟩ := hbody cdv A outer s H E p hot hC hr
  obtain ⟨g, pr, k1⟩ := ht.ex
  refine ⟨g, pr, k1 Z _ H M (startR N ds) (EndsR Φ) _ st (start_env l) .zero ⟨fun ρ1 σ1 Z1 M1 H1 s1 r1 e1 q1 => ?_, fun q v Z1 M1 H1 s1 r1 a1 q1 => ?_, fun ρ1 σ1 Z1 M1 H1 s1 r1 e1 q1 => q1.elim, fun ρ1 σ1 Z1 M1 H1 s1 r1 e1 q1 => q1.elim⟩ (rd ds M Φ Ψ hn hsp)⟩
  · obtain ⟨M2, sub, q⟩ := q1
    obtain ⟨s2, r2⟩ := s1.less sub
    exact kp .non .non Z1 M2 H1 s2 (r1.trans r2) rfl q
  · obtain ⟨M2, sub, q⟩ := q1
    obtain ⟨s2, r2⟩ := s1.less sub
    exact kp _ v Z1 M2 H1 s2 (r1.trans r2) a1 q
theorem de_callC {C : Addr × Obj → Prop} {k : Nat} {f : Addr} {fd : FuncData} {ps : List Str} {sp : Addr → DSp} {x : Str} {e : Expr} {es : List Expr} {t : TDa} {q : Addr × Obj} {p pos} (F : FnCP C X.prog X.w X.K X.mg X.base k f fd ps sp) (hr : L2H.RoomH k X.A) (hot : L2H.Hot1 X.A q) (hC : C q) (hq : q ∈ X.pn) (hg : Gl X x) (hm : X.mg x = some (.ref f)) (hk : PySem.W.keepIn X.K (.ref f) = true)
    (hb : L2.Binds X.K fd ps []) (ha : DA X R (e :: es) t) (hdb : (x == ("__debug__" : Str)) = false := by decide) (he : starEach (e :: es) X.env = (false, eval e X.env) :: starEach es X.env := by rfl) (hpl : (backTo pos (starEach es X.env)).any (·.1) = false := by rfl) :
    DE X R (.Call (.Name x p) (e :: es) [] pos) (dCall ps.length (sp q.1) (fun _ _ _ _ => False) t) := by
  obtain ⟨g1, p1, k1⟩ := ha.ex
  refine de_of (L2H.pe_callC (E := fun _ => L2.E0) F hr hot hC hq hg hm hk hb (fun σ => passLH) p1 hdb he hpl) fun Z σ H M ρ Φ Q s en l t kk => k1 Z σ H M ρ _ _ s en l t fun ds vs Z1 M1 H1 s1 r1 a1 q1 => ?_
  exact ⟨Z1, M1, ds, Φ, _, s1, a1, q1.1, q1.2, fun p v Z2 M2 H2 s2 r2 a2 q2 => kk p v Z2 M2 H2 s2 (r1.trans r2) a2 q2, fun cls fs d Z2 M2 H2 s2 r2 x2 q2 => q2.elim⟩
end
end NC

end
section
set_option Elab.async false
set_option linter.all false
set_option maxRecDepth 100000
set_option maxHeartbeats 1000000
namespace LamN
open PySem PySem.Spec PyProof.Rows L2 LamX
/-- all but the one table stay -/
def ExtP (P : Addr) (H H' : Hp) : Prop := ∀ b o, H b = some o → b ≠ P → H' b = some o
section
variable {X : Cx} {pins : List (Addr × Obj)} {σ : L2.St} {H : Hp} {s : Shared}
theorem lam_make3 {c P : Addr} {params : Arguments} {body : Expr} {scope : Scope} {pos : Pos} {E : Value → Shared → Prop} {Q : Value → Shared → Prop} (I : Inv X pins σ H s) (TB : TabB X.base X.mg c P) (hcode : X.env.code = .ref c)
    (hT : TabS H P (X.env.qual ++ "<lambda>")) (hdef : defaultsOf params X.env = ([], [])) (hfree : ∀ y ∈ scope.names, y.2 = .free → ∃ c, X.env.cells.lookup y.1 = some c)
    (h : ∀ (f c' : Addr) (pm ctv : Value) (H1 : Hp) (s' : Shared), Inv X pins σ H1 s' → ExtP P H H1 → TabS H1 P (X.env.qual ++ "<lambda>") →
      s'.heap.get? f = some (PySem.W.kla_obj "<lambda>" (X.env.qual ++ "<lambda>") params body scope (cloFrom X.env.cells scope.names []) pm c' ctv) → H1 f = none → f ∉ frs X.stack → H1 c' = some (CodeO c' (X.env.qual ++ "<lambda>")) → Q (.ref f) s') :
    wpAny (model X.prog X.w) X.A (eval (.Lambda params body scope pos) X.env) Q E s := by
  obtain ⟨ps, hP, ht, ha⟩ := id hT
  refine PySem.W.kla_eval hdef ?_
  have bP : s.heap.BuiltinsAt X.mg P := TB.bm.keeps I.bk
  have hP' : s.heap.get? P = some { cls := .none, data := .fields ps } := I.hok P _ hP
  have nofr : ∀ f, s.heap.objs.size ≤ f → f ∉ frs X.stack := fun f hf z => by
    rcases List.mem_cons.mp (I.stkSub _ z) with e | e
    · have h1 := I.lt
      rw [← e] at h1
      exact Nat.lt_irrefl _ (Nat.lt_of_lt_of_le h1 hf)
    · exact I.nofs hf e
  cases hc : codeAmong pos ps.toList with
  | none =>
    refine PySem.W.kla_makeFunction (mg := X.mg) (c := c) (P := P) (ps := ps) (closure_ok hfree) I.ok.glob (I.mod.glob.keeps I.bk) hcode (TB.code.keeps I.bk) hP' ht hc TB.gP bP fun c' ctv h' tk hx hge hlt hrec htb => ?_
    obtain ⟨c2, oc, vs, t, e2, hoc, hd, hv⟩ := hrec
    cases e2
    have hsz : s.heap.objs.size ≤ h'.objs.size := Nat.le_trans hge (Nat.le_of_lt hlt)
    have nC : H c' = none := I.hok.fresh hge
    have I1 := inv_table (t' := tk) (more := #[rawInt pos.line, rawInt pos.col, .ref c']) (h' := h'.push (PySem.W.kla_obj "<lambda>" (X.env.qual ++ "<lambda>") params body scope (cloFrom X.env.cells scope.names []) ((X.mg "__name__").getD .none) c' ctv)) I hP
      (fun b o hb e => Heap.get?_push_of_some _ (hx b o hb e)) (Heap.get?_push_of_some _ htb) hge ⟨oc, vs, t, Heap.get?_push_of_some _ hoc, hd, hv⟩
    have hE : ExtP P H (upd (upd H P (.tbl (ps ++ #[rawInt pos.line, rawInt pos.col, .ref c']))) c' (CodeO c' (X.env.qual ++ "<lambda>"))) := fun b o e n => by
      rw [upd_ne (ne_of_none e nC), upd_ne n]
      exact e
    have nCo : ∀ (d : Addr) (q : Str), H d = some (CodeO d q) → d ≠ P := fun d q e z => by
      rw [z, hP] at e
      exact codeO_ne ps (Option.some.inj e).symm
    have eL : (ps ++ #[rawInt pos.line, rawInt pos.col, .ref c']).toList = ps.toList ++ [rawInt pos.line, rawInt pos.col, .ref c'] := by simp
    refine h h'.objs.size c' ((X.mg "__name__").getD .none) ctv _ _ I1 hE ?_ (Heap.get?_push_size _ rfl) ?_ (nofr _ hsz) upd_same
    · refine ⟨_, by rw [upd_ne (ne_of_none hP nC), upd_same], by rw [eL]; exact PySem.TriplesOk_snoc _ _ _ _ ht, fun p' cv hcv => ?_⟩
      rw [eL] at hcv
      rcases among_app _ ht hcv with z | z
      · obtain ⟨c0, e1, e2⟩ := ha p' cv z
        exact ⟨c0, e1, hE _ _ e2 (nCo _ _ e2)⟩
      · exact ⟨c', z, upd_same⟩
    · have n1 : h'.objs.size ≠ c' := Nat.ne_of_gt hlt
      have n2 : h'.objs.size ≠ P := Nat.ne_of_gt (Nat.lt_of_lt_of_le (Heap.lt_size hP') hsz)
      rw [upd_ne n1, upd_ne n2]
      exact I.hok.fresh hsz
  | some cv =>
    obtain ⟨c', e, hco⟩ := ha pos cv hc
    subst e
    refine PySem.W.kla_makeFunctionHit (mg := X.mg) (c := c) (P := P) (ps := ps) (closure_ok hfree) I.ok.glob (I.mod.glob.keeps I.bk) hcode (TB.code.keeps I.bk) hP' ht hc bP fun ctv h' tk hx hsz => ?_
    have I1 : Inv X pins σ H { s with heap := h'.push (PySem.W.kla_obj "<lambda>" (X.env.qual ++ "<lambda>") params body scope (cloFrom X.env.cells scope.names []) ((X.mg "__name__").getD .none) c' ctv), toks := tk } := I.kept fun b o e => Heap.get?_push_of_some _ (hx b o e)
    exact h h'.objs.size c' ((X.mg "__name__").getD .none) ctv H _ I1 (fun _ _ e _ => e) hT (Heap.get?_push_size _ rfl) (I.hok.fresh hsz) (nofr _ hsz) hco
def tLamP (P : Addr) (q : Str) (TT : (XK → Hp → VK → Prop) → Hp → VK → Prop) (t : XK → TE) : TE := fun σ H Q => TabS H P q ∧ ∀ H1, ExtP P H H1 → TabS H1 P q → TT (fun E H' Q' => t E σ H' Q') H1 Q
theorem pe_lamcallP {TT : (XK → Hp → VK → Prop) → Hp → VK → Prop} {x a : Str} {g c P : Addr} {k : Nat} {pg : Arguments} {bg : List Stmt} {sg : Scope} {dV kV doc pm cdv ct oc : Value} {an od : Option Addr} {osl : Array (Option Value)} {Ng : List Str}
    {params : Arguments} {body : Expr} {scope : Scope} {t : XK → TE} {p lpos pos : Pos} (hg : Gl X x) (hm : X.mg x = some (.ref g)) (hk : PySem.W.keepIn X.K (.ref g) = true)
    (lk : X.K.lookup g = some ⟨oc, od, .func (PySem.W.fnOf x x pg bg sg dV kV doc pm an cdv ct), osl⟩) (hcg : PySem.W.codeIn X.K cdv x = true) (hb : L2.Binds X.K (PySem.W.fnOf x x pg bg sg dV kV doc pm an cdv ct) [a] []) (Sg : FnScope Ng [a] sg) (hNg : Ng[0]? = some a) (hva : Vis sg a)
    (hG : GivesN X Ng x sg g cdv bg a (X.env.qual ++ "<lambda>") TT)
    (TB : TabB X.base X.mg c P) (hcode : X.env.code = .ref c) (hr : Room (k + 5) X.A) (L : LamS X.env.scope scope) (hdef : defaultsOf params X.env = ([], []))
    (hbind : ∀ (q : Str) (cl : List (Str × Addr)) (pm cv ctv : Value), bindArgs (PySem.W.kla_fn "<lambda>" q params body scope cl pm cv ctv) ⟨[], []⟩ = pure [])
    (hbody : ∀ (A : Around) (outer : List Env) (s : Shared) (H : Hp) (E : XK) (f c' : Addr), Room k (A.deeper (lamEnv X scope s.heap.objs.size f c')) → PE (lamCxN X A outer s H E scope f c') body (t E))
    (hdb : (x == ("__debug__" : Str)) = false := by decide) (hd : (a == ("__debug__" : Str)) = false := by decide) (hcd : (a == ("__classdict__" : Str)) = false := by decide) :
    PE X (.Call (.Name x p) [.Lambda params body scope lpos] [] pos) (tLamP P (X.env.qual ++ "<lambda>") TT t) := by
  refine ⟨fun pins s σ H Q I h => ?_⟩
  obtain ⟨hT, h⟩ := h
  refine wpAny_Call_Name_kw (ld_glob I hg hm ?_ hdb)
  refine PySem.W.callWith_K (h₀ := X.base) I.ok.mod.kin hk ?_ (by rfl) (by rfl)
  show wpAny _ _ (spliced ((false, eval (.Lambda params body scope lpos) X.env) :: backTo pos (starEach [] X.env))) _ _ s
  refine Calls.spliced_cons (lam_make3 I TB hcode hT hdef (L.has I.ok) fun f c' pm' ctv H1 s' I1 eN T1 hf hfn hfr hco => ?_)
  refine Calls.spliced_nil ⟨I1.kIn, ?_⟩
  have hr1 : Room (k + 4 + 1) X.A := hr
  have rc : codeAny (model X.prog X.w) X.A (.call (.ref g) ⟨[.ref f], []⟩) (CR C8.CX0 X.stack X.prog X.w H1 s' Q C8.E0) s' := by
    refine run_ofS (N := Ng) (ps := [a]) (us := [.ref f]) (vs := [.ref f]) lk hcg Sg hr1 I1.env0 (hb s' [.ref f] I1.kIn rfl) (.cons rfl .nil) rfl fun hr' => ?_
    obtain ⟨t', ht', hq'⟩ := hG f c' s' H1 Q (fun E H' Q' => t E σ H' Q') (hr'.mono (by omega)) (fun W pn xe p1 p2 tk => pe_actN (i := 0) I1 L hf hfn hfr (hbind _ _ _ _ _) tk (hr'.mono (show k + 1 ≤ k + 4 by omega)) (fun A outer s H E hr2 => hbody A outer s H E f c' hr2) hNg hva hd hcd) hco (h H1 eN T1)
    exact ⟨t', ht'.nox, hq'⟩
  refine wpAny_call (codeAny_mono rc fun r s2 hq => ?_)
  cases r with
  | error e => exact (show False from hq).elim
  | ok fl =>
    cases fl with
    | ret u => exact I1.after hq
    | next => exact False.elim hq
    | brk => exact False.elim hq
    | cont => exact False.elim hq
end
end LamN
namespace NC
open PySem PySem.Spec PyProof.Rows L2 RZ LamX LamN
/-- what a def that tries what it got makes of it -/
def TTn (K : PySem.W.Frag) (told : P → P) (Good : Value → List (Str × P) → P → Prop) : (XK → Hp → VK → Prop) → Hp → VK → Prop := fun tl H Q =>
  ∃ Z M Φ, St K Z M H ∧ Kp K Z M H Φ Q ∧ ∀ Z1 H1, St K Z1 M H1 → Tr Z M H Z1 M H1 → ∀ E Q', Kp K Z1 M H1 (fun p M1 => Φ (told p) M1) Q' → Kx K Z1 M H1 (fun cls fs M1 => ∃ r, Good cls fs r ∧ Φ r M1) E → tl E H1 Q'
theorem st_tab {K : PySem.W.Frag} {Z : Hp} {M : Mm} {H H1 : Hp} {T : Addr} {q : Str} (s : St K Z M H) (hT : M T = some (.tab q)) (e : ExtP T H H1) (t : TabS H1 T q) : St K Z M H1 ∧ Tr Z M H Z M H1 := by
  have zT : Z T = none := s.d _ _ hT
  obtain ⟨ps0, hP0, _, _⟩ := s.m T _ hT
  have nT : ∀ b u, H b = some u → (∀ ps, u ≠ .tbl ps) → b ≠ T := fun b u h n z => by
    rw [z, hP0] at h
    exact n ps0 (Option.some.inj h).symm
  have code : ∀ c q2, H c = some (CodeO c q2) → M c = none → H1 c = some (CodeO c q2) ∧ M c = none := fun c q2 h n => ⟨e c _ h (nT c _ h codeO_ne), n⟩
  refine ⟨⟨fun b u h => e b u (s.z b u h) (fun z => by rw [z, zT] at h; cases h), fun a o h => ?_, s.d⟩, ⟨Same.refl _, fun b u h n => ⟨e b u h (fun z => by rw [z, hT] at n; cases n), n, rfl⟩, fun b h => ?_⟩⟩
  · by_cases ha : a = T
    · subst ha
      rw [hT] at h
      cases h
      obtain ⟨ps, h1, h2, h3⟩ := t
      refine ⟨ps, h1, h2, fun pos cv hc => ?_⟩
      obtain ⟨c, e1, e2⟩ := h3 pos cv hc
      refine ⟨c, e1, e2, ?_⟩
      cases hM : M c with
      | none => rfl
      | some o =>
        exfalso
        have hcT : c ≠ a := fun z => by
          rw [z, h1] at e2
          exact codeO_ne ps (Option.some.inj e2).symm
        have same : ∀ u, H c = some u → u = CodeO c q := fun u hu => by
          have h4 := e c u hu hcT
          rw [e2] at h4
          exact (Option.some.inj h4).symm
        have hm := s.m c o hM
        cases o with
        | lst xs => obtain ⟨vs, h5, _⟩ := hm; have := same _ h5; unfold CodeO at this; cases this
        | ins C dx fs => obtain ⟨vs, h5, _⟩ := hm; have := same _ h5; unfold CodeO at this; cases this
        | dK kvs => obtain ⟨vs, h5, _⟩ := hm; have := same _ h5; unfold CodeO at this; cases this
        | dT kvs => obtain ⟨vs, h5, _⟩ := hm; have := same _ h5; unfold CodeO at this; cases this
        | tab q => obtain ⟨vs, h5, _⟩ := hm; have := same _ h5; unfold CodeO at this; cases this
        | setT L φ =>
          obtain ⟨h5, ⟨h6, o6, es, ep, t6, p6, g6, d6⟩, _⟩ := hm
          have z := same _ h5
          unfold CodeO at z
          injection z with z
          rw [z] at p6
          obtain ⟨oc, vs, tt, g7, d7, _⟩ := p6
          rw [g6] at g7
          cases g7
          rw [d6] at d7
          cases d7
    · have hm := s.m a o h
      obtain ⟨u, hu⟩ := hm.there
      exact hm.stay (Same.refl _) ((e a u hu ha).trans hu.symm) code
  · cases hb : H b with
    | none => rfl
    | some u =>
      by_cases z : b = T
      · obtain ⟨ps, h1, _⟩ := t
        rw [z, h1] at h; cases h
      · rw [e b u hb z] at h; cases h
section
variable {X : Cx} {R : Rz}
def dTry (T : Addr) (q : Str) (told : P → P) (Good : Value → List (Str × P) → P → Prop) (tb : XP → TD) : TD := fun ρ M Φ => M T = some (.tab q) ∧ tb (fun cls fs M1 => ∃ r, Good cls fs r ∧ Φ r M1) ρ M (fun p M1 => Φ (told p) M1)
theorem de_try {told : P → P} {Good : Value → List (Str × P) → P → Prop} {x a : Str} {g c T : Addr} {k : Nat} {pg : Arguments} {bg : List Stmt} {sg : Scope} {dV kV doc pm cdv ct oc : Value} {an od : Option Addr} {osl : Array (Option Value)} {Ng : List Str}
    {params : Arguments} {body : Expr} {scope : Scope} {tb : XP → TD} {p lpos pos : Pos} (hg : Gl X x) (hm : X.mg x = some (.ref g)) (hk : PySem.W.keepIn X.K (.ref g) = true)
    (lk : X.K.lookup g = some ⟨oc, od, .func (PySem.W.fnOf x x pg bg sg dV kV doc pm an cdv ct), osl⟩) (hcg : PySem.W.codeIn X.K cdv x = true) (hb : L2.Binds X.K (PySem.W.fnOf x x pg bg sg dV kV doc pm an cdv ct) [a] []) (Sg : FnScope Ng [a] sg) (hNg : Ng[0]? = some a) (hva : Vis sg a)
    (hG : GivesN X Ng x sg g cdv bg a (X.env.qual ++ "<lambda>") (TTn X.K told Good))
    (TB : TabB X.base X.mg c T) (hcode : X.env.code = .ref c) (hr : Room (k + 5) X.A) (L : LamS X.env.scope scope) (hdef : defaultsOf params X.env = ([], []))
    (hbind : ∀ (q : Str) (cl : List (Str × Addr)) (pm cv ctv : Value), bindArgs (PySem.W.kla_fn "<lambda>" q params body scope cl pm cv ctv) ⟨[], []⟩ = pure [])
    (hbody : ∀ (A : Around) (outer : List Env) (s : Shared) (H : Hp) (E : XK) (Ψ : XP) (f c' : Addr), Room k (A.deeper (lamEnv X scope s.heap.objs.size f c')) → L2N.Takes (lamCxN X A outer s H E scope f c') (RzOf E Ψ).W → DE (lamCxN X A outer s H E scope f c') (RzOf E Ψ) body (tb Ψ))
    (hdb : (x == ("__debug__" : Str)) = false := by decide) (hd : (a == ("__debug__" : Str)) = false := by decide) (hcd : (a == ("__classdict__" : Str)) = false := by decide) :
    DE X R (.Call (.Name x p) [.Lambda params body scope lpos] [] pos) (dTry T (X.env.qual ++ "<lambda>") told Good tb) := by
  refine de_of (pe_lamcallP (t := fun E σ H Q => ∃ Ψ Z M ρ Φ, St X.K Z M H ∧ EnvOk X.K Z ρ σ ∧ Lk X.K (RzOf E Ψ) Z M H ∧ tb Ψ ρ M Φ ∧ Kp X.K Z M H Φ Q) hg hm hk lk hcg hb Sg hNg hva hG TB hcode hr L hdef hbind (fun A outer s H E f c' hr2 => ⟨fun pins s' σ H Q I hw => ?_⟩) hdb hd hcd) fun Z σ H M ρ Φ Q s en l t kk => ?_
  · obtain ⟨Ψ, Z, M, ρ, Φ, s1, en, lk, tt, kp⟩ := hw
    obtain ⟨ht, pr, k1⟩ := (hbody A outer _ _ E Ψ f c' hr2 lam_takes).ex
    exact pr.run pins s' σ H Q I (k1 Z σ H M ρ Φ Q s1 en lk tt kp)
  · obtain ⟨hT, tt⟩ := t
    have hS := s.m T _ hT
    obtain ⟨ps, h1, h2, h3⟩ := hS
    refine ⟨⟨ps, h1, h2, fun pos cv hc => let ⟨c, a, b, _⟩ := h3 pos cv hc; ⟨c, a, b⟩⟩, fun H1 eN T1 => ?_⟩
    obtain ⟨s1, r1⟩ := st_tab s hT eN T1
    refine ⟨Z, M, Φ, s1, kk.next r1, fun Z2 H2 s2 r2 E Q' kp kx => ⟨_, Z2, M, ρ, _, s2, en.mono (r1.trans r2).z, fun cls fs d ρ3 σ3 Z3 M3 H3 s3 r3 e3 x3 q3 => kx cls fs d Z3 M3 H3 s3 r3 x3 q3, tt, kp⟩⟩
end
end NC
namespace NC
open PySem PySem.Spec PyProof.Rows L2 RZ
theorem de_gcls {X : Cx} {R : Rz} {x : Str} {C : Addr} {pos : Pos} (hg : Gl X x) (hm : X.mg x = some (.ref C)) (hd : (x == ("__debug__" : Str)) = false := by decide) : DE X R (.Name x pos) (dC (.ref C)) :=
  de_cst (pe_glob (v := .ref C) hg hm rfl hd) fun _ => rfl
end NC

end
section
set_option Elab.async false
set_option linter.all false
set_option maxRecDepth 100000
set_option maxHeartbeats 4000000
namespace NcTM
open PySem PySem.W PySem.Calls PyProof.Rows
/-! ### def __init__(self, limit): super().__init__(a text); self.limit = limit  -- of an exception class over ValueError -/
/-- what the written part says of the class, its __init__, the cell of __class__ -/
structure TmC (P : Program) (K : Frag) (mg : Str → Option Value) (C fI : Addr) (st : Stmt) : Prop where
  T : L2.OexC K C
  iC : findIn K (.ref C) "__init__" = some (some (.ref fI))
  tI : typeIn K (.ref fI) = some (.type "function")
  lk : ∃ (oc : Value) (od : Option Addr) (osl : Array (Option Value)) (q : Str) (kV doc pm ct : Value) (an : Option Addr) (cda cc : Addr), K.lookup fI = some ⟨oc, od, .func (ksFn "__init__" q (L2.defArgs st) (L2.defBody st) (L2.defScope st) .none kV doc pm an (.ref cda) ct cc), osl⟩ ∧
    codeIn K (.ref cda) q = true ∧ (∃ (cl : Value) (cld : Option Addr) (csl : Array (Option Value)), K.lookup cc = some ⟨cl, cld, .cell (some (.ref C)), csl⟩) ∧
    ∃ (ccl : Value) (cdd : Option Addr) (vs : Array Value) (ccs : Array (Option Value)) (file : Str) (tf : Tok), K.lookup cda = some ⟨ccl, cdd, .fields vs, ccs⟩ ∧ vs[2]? = some (.str file tf) ∧ ((P.main.file : Str) == file) = true
  sC : subIn K (.ref C) (.type "ValueError") = some true
  mC : mroIn K C (.ref C) = some true
  su : ks_superIn K C C "__init__" = some (some (.builtin "ValueError.__init__"))
  op : nsIn K cStatics "thirdparty.any" = some none
  lim : findIn K (.ref C) "limit" = some none
  ms : mg "super" = none
  tp : (P.main.scope.names.lookup ("super" : Str)).isSome = false
section
variable {P : Program} {w : World} {A : Around} {E : Value → Shared → Prop} {s : Shared} {K : Frag} {mg : Str → Option Value} {C fI : Addr} {st : Stmt}
/-- the built-in __init__, bound to the exception, called with one text: its args are laid anew -/
theorem call_up {nm q : Str} {N e t0 u : Addr} {bs bm : List Value} {hdct : Bool} {sn : List Str} {sub : List Value} {ab : Bool} {col : Option Bool} {dd : Option Addr} {k0 k1 k2 k3 k5 : Option Value} {rest : List Value} {Q : Value → Shared → Prop}
    (hC : s.heap.get? C = some (excClassObj nm q C N bs bm hdct sn sub ab col dd k0 k1 k2 k3 k5 "ValueError.__new__")) (he : s.heap.get? e = some (HandSPX.excO C t0)) (hu : s.heap.get? u = some (kxs_mw "ValueError.__init__" e)) (hz : rest.length ≤ sizeLine)
    (hq : ∀ h', (∀ b o, b ≠ e → s.heap.get? b = some o → h'.get? b = some o) → h'.get? e = some (HandSPX.excO C s.heap.objs.size) → Q .none { s with heap := h' }) :
    wpAny (model P w) A (call (.ref u) rest) Q E s := by
  obtain ⟨h, g, d, t, os⟩ := s
  refine wpAny_call (codeAny_of_tree ?_)
  show wpAny _ A.in1 (callAny (.ref u) ⟨rest, []⟩) _ _ _
  simp only [callAny]
  refine wpAny_bind (wpAny_load hu ?_)
  have b1 : (Value.type "method-wrapper" == Value.type "method" || Value.type "method-wrapper" == Value.type "builtin_function_or_method" || Value.type "method-wrapper" == Value.type "method-wrapper") = true := by decide
  simp only [kxs_mw, b1, if_true]
  refine KFB.if_so (by decide) (wpAny_bind (check_bound_init PySem.F.excBase_ValueError.toExcCallFacts hC he rfl (wpAny_bind (wpAny_pure (wpAny_pure ⟨plainId_quiet PySem.F.excBase_ValueError.init.plain _, codeAny_builtin PySem.F.excBase_ValueError.initEntry ?_⟩)))))
  exact exc_init_tree (cls := .ref C) (t0 := t0) (dv := none) (c2 := .none) (c3 := .none) (b4 := .bool false) he hz fun h' k e' _ => hq h' k e'
/-- the def's text -/
structure TmSt (st : Stmt) : Prop where
  body : ∃ (p0 p1 p2 p3 p4 p5 p6 p7 p8 p9 : Pos) (m : Str) (j : Nat), L2.defBody st = [.Expr (.Call (.Attribute (.Call (.Name "super" p0) [] [] p1) "__init__" p2) [.Constant (.str m) j p3] [] p4) p5, .Assign [.Attribute (.Name "self" p6) "limit" p7] (.Name "limit" p8) p9] ∧
    (∀ env : Env, env.scope = L2.defScope st → interactive env = false ∧ swapsWith (.Call (.Attribute (.Call (.Name "super" p0) [] [] p1) "__init__" p2) [.Constant (.str m) j p3] [] p4) none p5.line env = pure false ∧ swapsWith (.Name "limit" p8) (some (.Attribute (.Name "self" p6) "limit" p7)) p9.line env = pure false ∧ ∃ pl : Sem Bool, eval (.Call (.Attribute (.Call (.Name "super" p0) [] [] p1) "__init__" p2) [.Constant (.str m) j p3] [] p4) env = (do
      let ov ← attributeBase (.Call (.Name "super" p0) [] [] p1) "__init__" env (eval (.Call (.Name "super" p0) [] [] p1) env)
      standAt p2.atName
      let (f, first) ← holding [ov] (getMethod ov "__init__" pl)
      callWith p4 f first (backTo p4 (starEach [.Constant (.str m) j p3] env)) []))
  self : ((L2.defArgs st).posonlyargs ++ (L2.defArgs st).args).head?.map (·.arg) = some ("self" : Str)
  nS : (L2.defScope st).names.lookup ("super" : Str) = some .globalImplicit
  nC : (L2.defScope st).names.lookup ("__class__" : Str) = some .free
  n0 : (L2.defScope st).names.lookup ("self" : Str) = some .local
  n1 : (L2.defScope st).names.lookup ("limit" : Str) = some .local
  cells : ∀ x ∈ (L2.defScope st).names, x.2 ≠ .cell
  co : (L2.defScope st).isCoroutine = false
  gen : (L2.defScope st).isGenerator = false
  kind : (L2.defScope st).kind = .function
  binds : ∀ (q : Str) (kV doc pm cdv ct : Value) (an : Option Addr) (cc : Addr) (x u : Value), bindArgs (ksFn "__init__" q (L2.defArgs st) (L2.defBody st) (L2.defScope st) .none kV doc pm an cdv ct cc) ⟨[x, u], []⟩ = pure [(("self" : Str), x), (("limit" : Str), u)]
theorem Ns_keep {h h' : Heap} {a : Addr} {m : Str → Option Value} (hn : h.Ns a m) (k : ∀ o, h.get? a = some o → h'.get? a = some o) : h'.Ns a m :=
  let ⟨o, es, ep, ho, r⟩ := hn
  ⟨o, es, ep, k o ho, r⟩
set_option maxHeartbeats 8000000 in
theorem init_ok (c : TmC P K mg C fI st) (S : TmSt st) {x t0 : Addr} {u : Value} {R : Result → Shared → Prop} (X : ∀ h', (∀ b o, b ≠ x → s.heap.get? b = some o → h'.get? b = some o) → K.In h') (gl : s.heap.Ns mainGlobals mg) (bl : ∃ mb, s.heap.Ns builtinsNs mb ∧ ∀ y : Str, y ≠ "__name__" → mb y = bootBuiltins y)
    (lim : s.heap.NoLimit) (room : A.depth < recursionLimit) (hx : s.heap.get? x = some (HandSPX.excO C t0))
    (hq : ∀ h' tk dx t1, (∀ b o, b ≠ x → s.heap.get? b = some o → h'.get? b = some o) → s.heap.objs.size ≤ dx → dx ≠ x → h'.get? x = some { cls := .ref C, dict := some dx, data := .fields #[.ref t1, .none, .none, .none, .bool false, .none] } →
      h'.Ns1 dx (fun y => if y = ("limit" : Str) then some u else none) → R (.ok (.ret .none)) { s with heap := h', toks := tk }) :
    codeAny (model P w) A (.call (.ref fI) ⟨[.ref x, u], []⟩) R s := by
  obtain ⟨oc, od, osl, q, kV, doc, pm, ct, an, cda, cc, lk, hcd, ⟨cl, cld, csl, lc⟩, ccl, cdd, vs, ccs, file, tf, lcd, hvs, hfile⟩ := c.lk
  obtain ⟨nm, qn, N, bs, bm, sn, sub, ab, col, dd, k0, k1, k2, k3, k5, hC, hbm⟩ := c.T.cls
  obtain ⟨p0, p1, p2, p3, p4, p5, p6, p7, p8, p9, m, j, eb, hev⟩ := S.body
  have X0 : K.In s.heap := X _ fun _ _ _ e => e
  obtain ⟨mb, bl1, bl2⟩ := bl
  have hcl : clsIn K C = some { name := nm, bases := bs, mro := .ref C :: bm, ns := N, qualname := qn, hasDict := true, slotNames := sn, subclasses := sub, abstract := ab, collection := col, hasDel := false } := by unfold clsIn; rw [hC]
  refine ks_codeAny_call_defAt (fd := ksFn "__init__" q (L2.defArgs st) (L2.defBody st) (L2.defScope st) .none kV doc pm an (.ref cda) ct cc) (body := L2.defBody st) (binds := [(("self" : Str), .ref x), (("limit" : Str), u)]) room (X0 _ _ lk) rfl lim (codeRec_of X0 hcd) rfl (BindsTo.of_eq (S.binds q kV doc pm (.ref cda) ct an cc (.ref x) u)) S.cells (fun b hb => ?_) (fun h1 hns k1' => ?_) S.co S.gen S.kind
  · rcases List.mem_cons.mp hb with e | e
    · rw [e]; exact S.n0
    · rw [List.mem_singleton.mp e]; exact S.n1
  let env : Env := ksEnv q (L2.defScope st) s.heap.objs.size fI (.ref cda) cc
  show PySem.wpAt (model P w) (A.deeper env) (.func (L2.defBody st) env) (execs (L2.defBody st) env) _ _ _
  have hself : ∀ z : Str, ([(("self" : Str), Value.ref x), (("limit" : Str), u)].reverse).lookup z = if z = "limit" then some u else if z = "self" then some (.ref x) else none := fun z => by
    show List.lookup z [(("limit" : Str), u), (("self" : Str), Value.ref x)] = _
    rw [List.lookup_cons, List.lookup_cons]
    by_cases e : z = "limit"
    · rw [if_pos e, e]; rfl
    · rw [if_neg e, show (z == ("limit" : Str)) = false from beq_eq_false_iff_ne.mpr e]
      by_cases e2 : z = "self"
      · rw [if_pos e2, e2]; rfl
      · rw [if_neg e2, show (z == ("self" : Str)) = false from beq_eq_false_iff_ne.mpr e2]
        rfl
  have ks : env.kindOf "super" = some .globalImplicit := S.nS
  have kc : env.kindOf "__class__" = some .free := S.nC
  have k_0 : env.kindOf "self" = some .local := S.n0
  have k_1 : env.kindOf "limit" = some .local := S.n1
  have kk : env.scope.kind = .function := S.kind
  have X1 : K.In h1 := X _ fun b o _ e => k1' b o e
  have hx1 := k1' _ _ hx
  have hD1 : h1.get? C = some _ := X1 _ _ hC
  rw [eb]
  obtain ⟨it, sw1, sw2, pl, he⟩ := hev env rfl
  obtain ⟨ar, hp, har⟩ : ∃ ar, ((L2.defArgs st).posonlyargs ++ (L2.defArgs st).args).head? = some ar ∧ ar.arg = ("self" : Str) := by
    have := S.self
    cases e : ((L2.defArgs st).posonlyargs ++ (L2.defArgs st).args).head? with
    | none => rw [e] at this; cases this
    | some ar => rw [e] at this; exact ⟨ar, rfl, Option.some.inj this⟩
  refine ks_wpAt_execs_cons (ks_wpAt_Expr_any (ks_wpAt_MethodCall (pl := pl) ?_ he) it sw1)
  refine ks_wpAt_super_base (env := env) ks kc (by decide) rfl (X1 _ _ lk) rfl hp rfl (X1 _ _ lcd) rfl hvs hfile c.tp ?_
  refine ks_loadName_global kk ks (loadGlobal_builtin (env := env) (Ns_keep gl fun o e => k1' _ o e) c.ms (Ns_keep bl1 fun o e => k1' _ o e) ((bl2 _ (by decide)).trans PyProof.Rows.Boot.«super») ⟨rfl, ?_⟩)
  refine wpAny_loadName_free kk kc rfl ⟨_, X1 _ _ lc, rfl⟩ ?_
  rw [har]
  refine wpAny_loadName_local kk k_0 hns (by rw [hself]; rfl) ?_
  refine ks_wpAny_isType_cls hD1 rfl ⟨rfl, ?_⟩
  refine ks_wpAny_call_super hD1 rfl hx1 rfl (fun c e => nomatch e) (looks_mroIn X1 c.mC) (fun h2 e2 k2' => ?_)
  have X2 : K.In h2 := X1.keeps k2'
  have hx2 := k2' _ _ hx1
  have I2 : InstAt h2 x (HandSPX.excO C t0) C none := ⟨hx2, rfl, rfl, trivial⟩
  have hI : Looks (model P w) h2 (isInstance (.ref x) (.type "ValueError")) true := I2.type.andThen (looks_subIn X2 c.sC)
  have su := c.su
  unfold ks_superIn at su
  rw [hcl] at su
  refine kxs_getMethod kxs_ValueError e2 (looks_opaque X2 c.op) (l₀ := .ref C :: bm) (fun A Q E s k q => wpAny_bind ((looks_clsIn X2 hcl) A _ E s k (wpAny_pure q))) rfl X2 su hI (ks_ne X2 I2 hcl) (by decide) ?_
  have k3' : ∀ b o, h2.get? b = some o → (h2.push (kxs_mw "ValueError.__init__" x)).get? b = some o := fun b o e => Heap.get?_push_of_some _ e
  have hu3 : (h2.push (kxs_mw "ValueError.__init__" x)).get? h2.objs.size = some (kxs_mw "ValueError.__init__" x) := Heap.get?_push_at rfl rfl
  refine kxs_callWith (i := "ValueError.__init__") (x := x) (by rfl) (evalArgs_plain (spliced_cons (wpAny_Constant_str (k := j) (pos := p3) (spliced_nil ⟨hu3, ?_⟩))))
  refine call_up ((X2.keeps k3') _ _ hC) (k3' _ _ hx2) hu3 (by show 1 ≤ sizeLine; rw [sizeLine_eq]; decide) fun h4 k4' hx4 => ?_
  have kall : ∀ b o, b ≠ x → s.heap.get? b = some o → h4.get? b = some o := fun b o nb e => k4' b o nb (k3' _ _ (k2' _ _ (k1' _ _ e)))
  have X4 : K.In h4 := X _ kall
  have hns4 : h4.Ns env.locals (fun x_1 => List.lookup x_1 ([(("self" : Str), Value.ref x), (("limit" : Str), u)].reverse)) := Ns_keep hns fun o e => k4' _ o (fun z => by
    have := Heap.lt_size hx
    rw [← z] at this
    exact absurd this (Nat.lt_irrefl _)) (k3' _ _ (k2' _ _ e))
  refine ks_wpAt_execs_cons (PySem.wpAt_of_wpAny (plainObj_wpAny_Assign_Attribute ?_ sw2))
  refine wpAny_Name (wpAny_loadName_local kk k_1 hns4 (by rw [hself]; rfl) (wpAny_Name (wpAny_loadName_local kk k_0 hns4 (by rw [hself]; rfl) ?_) (by decide))) (by decide)
  refine set_plain X4 (ox := HandSPX.excO C _) (od := none) ⟨hx4, rfl, rfl, trivial⟩ c.T.sa ?_
  refine HandSPX.exc_osa X4 hx4 hcl (show HandSPX.refsVE (.ref C :: bm) = true from hbm) rfl c.lim (fun h5 tk5 dx k5' dn dne hx5 hn5 => ?_)
  refine PySem.wpAt_of_wpAny (wpAny_pure ?_)
  have size4 : s.heap.objs.size ≤ h4.objs.size := by
    obtain ⟨o, es, ep, e, _⟩ := hns4
    exact Nat.le_of_lt (Heap.lt_size e)
  exact hq h5 _ dx _ (fun b o nb e => k5' b o nb (kall b o nb e)) (Nat.le_trans size4 dn) dne hx5 hn5
end
end NcTM
namespace NcTM
open PySem PySem.Spec PyProof.Rows L2
section
variable {X : Cx} {e : Expr} {ta : TA} {p pos : Pos}
/-- C(e) of such a class -/
def tTm (C : Addr) (ta : TA) : L2.St → Hp → XK → Prop := fun σ H Q => ta σ H fun vs H1 => ∃ y, vs = [y] ∧ ∀ d, H1 d = none → Q (.ref C) (some d) (upd H1 d (.xd [("limit", y)]))
theorem pmk_tm {x : Str} {C fI : Addr} {st : Stmt} (c : TmC X.prog X.K X.mg C fI st) (S : TmSt st) (hr : Room 1 X.A) (hg : Gl X x) (hm : X.mg x = some (.ref C)) (ha : PA X [e] ta)
    (hdb : (x == ("__debug__" : Str)) = false := by decide) (he : starEach [e] X.env = (false, eval e X.env) :: starEach [] X.env := by rfl) (hpl : (backTo pos (starEach [] X.env)).any (·.1) = false := by rfl) :
    L2N.PMk X (.Call (.Name x p) [e] [] pos) (tTm C ta) := by
  intro pins s σ H Q I h
  obtain ⟨nm, q, N, bs, bm, sn, sub, ab, col, dd, k0, k1, k2, k3, k5, hC, hbm⟩ := c.T.cls
  refine wpAny_Call_Name_kw (ld_glob I hg hm ?_ hdb)
  refine PySem.W.callWith_K (h₀ := X.base) I.ok.mod.kin c.T.kC (thn (ha.run pos pins s σ H _ I h) fun us s1 ⟨vs, H1, I1, r1, y, ev, q1⟩ => ⟨I1.kIn, ?_⟩) he hpl
  subst ev
  obtain ⟨u, rfl, ru⟩ : ∃ u, us = [u] ∧ RelV y u := by
    cases r1 with
    | cons ry rt => cases rt; exact ⟨_, rfl, ry⟩
  show wpAny _ _ (call (.ref C) [u]) _ _ _
  obtain ⟨hp, g, dr, tk, os⟩ := s1
  have k1' : ∀ b o, hp.get? b = some o → ((hp.push (PySem.W.kdv_tup [u])).push (PySem.HandSPX.excO C hp.objs.size)).get? b = some o := fun b o e => Heap.get?_push_of_some _ (Heap.get?_push_of_some _ e)
  have hget : ((hp.push (PySem.W.kdv_tup [u])).push (PySem.HandSPX.excO C hp.objs.size)).get? (hp.objs.size + 1) = some (PySem.HandSPX.excO C hp.objs.size) := by heap_get
  have hsz : hp.objs.size ≤ hp.objs.size + 1 := Nat.le_succ _
  have nx : ∀ {b : Addr} {o : Obj}, hp.get? b = some o → b ≠ hp.objs.size + 1 := fun {b o} z => Nat.ne_of_lt (Nat.lt_of_lt_of_le (Heap.lt_size z) hsz)
  have K1 : X.K.In hp := I1.kIn
  obtain ⟨mb, bl1, bl2⟩ := I1.mod.blt
  refine wpAny_call (PySem.HandSPX.call_own PySem.F.excBase_ValueError (fun Y => PySem.HandSPX.refsVE_contains Y bm hbm) (K1 _ _ hC) (PySem.W.looks_findIn K1 c.iC) (fun self => PySem.W.bind_fn K1 self c.tI) (by show 1 ≤ sizeLine; rw [sizeLine_eq]; decide)
    (init_ok (s := ⟨(hp.push (PySem.W.kdv_tup [u])).push (PySem.HandSPX.excO C hp.objs.size), g, dr, tk, os⟩) c S (x := hp.objs.size + 1) (t0 := hp.objs.size) (u := u)
      (fun h' k b o e => k b o (nx (K1 b o e)) (k1' b o (K1 b o e))) (Ns_keep (I1.mod.glob.keeps I1.bk) fun o e => k1' _ o e) ⟨mb, Ns_keep (bl1.keeps I1.bk) fun o e => k1' _ o e, bl2⟩
      (I1.nolimit.keeps k1') (hr.make C [u] []).depth hget fun h' tk' dx t1 k dn dne hx hn => ?_))
  obtain ⟨G, g1', g2'⟩ := restrict h' fun b => decide (b ≠ hp.objs.size + 1)
  have gk : ∀ b, b ≠ hp.objs.size + 1 → G.get? b = h'.get? b := fun b hb => g1' b (decide_eq_true hb)
  have ge : G.get? (hp.objs.size + 1) = none := g2' _ (by simp)
  have kG : ∀ b o, hp.get? b = some o → G.get? b = some o := fun b o e => (gk b (nx e)).trans (k b o (nx e) (k1' b o e))
  have dn1 : hp.objs.size ≤ dx := by
    refine Nat.le_trans hsz (Nat.le_trans ?_ dn)
    show hp.objs.size + 1 ≤ ((hp.push (PySem.W.kdv_tup [u])).push (PySem.HandSPX.excO C hp.objs.size)).objs.size
    exact Nat.le_of_lt (Heap.lt_size hget)
  have hd : H1 dx = none := I1.hok.fresh dn1
  have J : Inv X pins σ (upd H1 dx (.xd [("limit", y)])) ⟨G, g, dr, tk', os⟩ := I1.laid (t' := tk') (a := dx) (o := .xd [("limit", y)]) kG dn1 ⟨_, hn.at fun o z => (gk dx dne).trans z, fun f => relO_put (fs := []) (mA := fun _ => none) ru (fun _ => True.intro) f⟩
  refine ⟨rfl, hp.objs.size + 1, _, _, ⟨G, g, dr, tk', os⟩, _, .ref C, some dx, rfl, J, fun b o z => ?_, ge, hx, ⟨rfl, rfl, fun vs hv => ?_⟩, rfl, rfl, ?_, rfl, I1.bare, raises_own c.T.exC c.T.tyC, q1 dx hd⟩
  · by_cases hb : b = hp.objs.size + 1
    · rw [hb, ge] at z; cases z
    · exact (gk b hb).symm.trans z
  · cases hv; rfl
  · rw [upd_ne (Ne.symm dne)]
    exact I1.hok.fresh hsz
end
end NcTM

end
section
set_option Elab.async false
set_option linter.all false
set_option maxRecDepth 100000
set_option maxHeartbeats 4000000
namespace NC
open PySem PySem.Spec PyProof.Rows L2 RZ
section
variable {X : Cx} {R : Rz}
def dRaiseM (cls : Value) (Ψ : Value → List (Str × P) → Rho → Mm → Prop) (te : TD) : TSd := fun _ ρ M => te ρ M fun p M1 => Ψ cls [("limit", p)] ρ M1
theorem ds_raiseM {C fI : Addr} {st : Stmt} {x : Str} {e : Expr} {te : TD} {p pos pos2 : Pos} (c : NcTM.TmC X.prog X.K X.mg C fI st) (S : NcTM.TmSt st) (hm : X.mg x = some (.ref C)) (hr : Room 1 X.A) (hc : X.calm = true) (tk : L2N.Takes X R.W) (hg : Gl X x) (he : DE X R e te)
    (hdb : (x == ("__debug__" : Str)) = false := by decide) (hs : starEach [e] X.env = (false, eval e X.env) :: starEach [] X.env := by rfl) (hpl : (backTo pos (starEach [] X.env)).any (·.1) = false := by rfl) :
    DS X R (.Raise (some (.Call (.Name x p) [e] [] pos)) none pos2) (dRaiseM (.ref C) R.Ψ te) := by
  obtain ⟨g, pe, k1⟩ := he.ex
  refine ⟨_, L2N.ps_raise hc tk (NcTM.pmk_tm c S hr hg hm (pa_cons pe pa_nil hs) hdb hs hpl), fun Z σ H M ρ D D' s en l k t => ?_⟩
  refine k1 Z σ H M ρ _ _ s en l t fun q v Z1 M1 H1 s1 r1 a1 q1 => ⟨v, rfl, fun d hd => ?_⟩
  obtain ⟨s2, r2⟩ := s1.frz (o := .xd [("limit", v)]) hd
  exact l (.ref C) [("limit", q)] (some d) ρ σ _ M1 _ s2 (r1.trans r2) ((en.mono r1.z).mono r2.z) (.inr ⟨by simp, d, _, rfl, upd_same, v, [], rfl, a1.mono r2.z, rfl⟩) q1
end
/-- e.limit, e the exception that the suite holds -/
def dLimit (a : Addr) (te : TD) : TD := fun ρ M Φ => te ρ M fun p M1 => ∃ d n, p = .exn a d n ∧ Φ (.int n) M1
theorem de_limit {X : Cx} {R : Rz} {a C d : Addr} {n : Int} {oe : Obj} {pn : List (Addr × Obj)} {e : Expr} {te : TD} {pos : Pos} (T : XfC X.K C) (hno : PySem.W.findIn X.K (.ref C) "limit" = some none) (hz : Zc (.ref C) (some d) oe) (hf : ∃ vs, oe.data = .fields vs)
    (he : DE (X.suite a ((a, oe) :: pn)) R e te) (hb : attributeBase e "limit" X.env (eval e X.env) = eval e X.env := by rfl) : DE (X.suite a ((a, oe) :: pn)) R (.Attribute e "limit" pos) (fun ρ M Φ => te ρ M fun p M1 => p = .exn a d n ∧ Φ (.int n) M1) := by
  obtain ⟨g, pe, k1⟩ := he.ex
  refine de_of (pe_xf T hno hz hf pe hb) fun Z σ H M ρ Φ Q s en l t k => k1 Z σ H M ρ _ _ s en l t fun q v Z1 M1 H1 s1 r1 a1 q1 => ?_
  obtain ⟨rfl, q1⟩ := q1
  exact ⟨a1.1, rfl, d, _, .int n, rfl, s1.z _ _ a1.2, rfl, k _ _ Z1 M1 H1 s1 r1 (show Is X.K Z1 (.int _) (.int _) from rfl) q1⟩
/-! ### the head's facts, with what is told of some defs more (those that know their class) -/
abbrev FnV : Type := Option (Str × Str × Arguments × FuncBody × Scope × Addr × List Str × Addr)
def fnV (K : PySem.W.Frag) (f : Addr) : FnV := match K.lookup f with
  | some ⟨_, _, .func fd, _⟩ => some (fd.name, fd.qualname, fd.params, fd.body, fd.scope, fd.globals, fd.closure.map (·.1), fd.builtins)
  | _ => none
abbrev AlY : Type := He.AlX × List FnV
/-- what is looked at: HeadHook2's addresses, and the interpreter's own dict -/
def asY (g : Addr → Option Obj) (n : Nat) : List Addr := cStatics :: He.asD g n
def obsY (n : Nat) (fa : List He.Fa) (fn : List He.DefD) (tf : List He.Defn) (ex : PySem.W.Frag → Bool) (fs : PySem.W.Frag → List Addr) (g : Addr → Option Obj) : AlY :=
  ((He.obsT fa fn [] (He.frT g (asY g n)), ex (He.frT g (asY g n)) && He.tabsB g tf (He.frT g (asY g n))), (fs (He.frT g (asY g n))).map (fnV (He.frT g (asY g n))))
theorem says_as {as : List Addr} {fa : List He.Fa} {fn : List He.DefD} {tf : List He.Defn} {ex : PySem.W.Frag → Bool} {w : World} {h : Heap} (e1 : He.obsT fa fn [] (He.frT h.get? as) = He.valT fn [] w) (e2 : (ex (He.frT h.get? as) && He.tabsB h.get? tf (He.frT h.get? as)) = true) : He.SaysX fa fn [] tf ex w h (He.frT h.get? as) := by
  obtain ⟨h1, h2⟩ := He.ba e2
  have key : ∀ p ∈ tf, PySem.W.codeHdIn (He.frT h.get? as) (He.cT (He.frT h.get? as) p).1 (He.cT (He.frT h.get? as) p).2 = true ∧ ∃ o, h.get? (He.cT (He.frT h.get? as) p).2 = some o ∧ He.emptyTab o = true := fun p hp => by
    obtain ⟨h3, h4⟩ := He.ba (List.all_eq_true.mp h2 p hp)
    cases q : h.get? (He.cT (He.frT h.get? as) p).2 with
    | none => rw [q] at h4; cases h4
    | some o => rw [q] at h4; exact ⟨h3, o, rfl, h4⟩
  refine ⟨e1, h1, fun p hp => (key p hp).1, fun p hp => ?_, fun p hp => ?_⟩
  · obtain ⟨_, o, q, z⟩ := key p hp
    exact He.frT_none q z
  · obtain ⟨_, o, q, z⟩ := key p hp
    rw [q, He.emptyTab_eq z]
structure SaysY (fa : List He.Fa) (fn : List He.DefD) (tf : List He.Defn) (ex : PySem.W.Frag → Bool) (fs : PySem.W.Frag → List Addr) (vals : List FnV) (w : World) (h : Heap) (K : PySem.W.Frag) : Prop where
  x : He.SaysX fa fn [] tf ex w h K
  v : (fs K).map (fnV K) = vals
def hookY (n : Nat) (fa : List He.Fa) (fn : List He.DefD) (tf : List He.Defn) (ex : PySem.W.Frag → Bool) (fs : PySem.W.Frag → List Addr) (vals : List FnV) : PySem.W.Hook where
  α := AlY
  obs := fun s => obsY n fa fn tf ex fs s.heap.get?
  val := fun w => (He.valX fn [] w, vals)
  says := fun w h => ∃ K : PySem.W.Frag, K.In h ∧ SaysY fa fn tf ex fs vals w h K
  of := fun _ _ e => ⟨_, He.frT_in, ⟨says_as (congrArg (fun z : AlY => z.1.1) e) (congrArg (fun z : AlY => z.1.2) e), congrArg (fun z : AlY => z.2) e⟩⟩
  keeps := fun w _ _ ⟨K, hK, c⟩ k => ⟨K, PySem.W.Frag.In.keeps hK k, ⟨⟨c.x.t, c.x.more, c.x.hd, c.x.out, fun p hp => k _ _ (c.x.empty p hp)⟩, c.v⟩⟩
theorem obsY_eq {n : Nat} {fa : List He.Fa} {fn : List He.DefD} {tf : List He.Defn} {ex : PySem.W.Frag → Bool} {fs : PySem.W.Frag → List Addr} {vals : List FnV} {g : Addr → Option Obj} {s : Shared} (h : ∀ a, g a = s.heap.get? a) : obsY n fa fn tf ex fs g = (hookY n fa fn tf ex fs vals).obs s := by
  have e : g = s.heap.get? := funext h
  rw [e] <;> rfl
/-- what the written part is to say of the class, told as a Bool -/
def tmB (P : Program) (K : PySem.W.Frag) (C fI : Addr) : Bool :=
  (match K.lookup C with
  | some ⟨.type "type", _, .cls cd, sl⟩ => (match cd.mro, sl.toList with
    | .ref C' :: bm, [_, _, _, _, some (.builtin n), _] => C' == C && (n == "ValueError.__new__" && (!cd.hasDel && (cd.hasDict && PySem.HandSPX.refsVE bm)))
    | _, _ => false)
  | _ => false) &&
  (decide (PySem.W.findIn K (.ref C) "__setattr__" = some (some (.builtin "object.__setattr__"))) && (decide (PySem.W.subIn K (.ref C) (.type "BaseException") = some true) && (decide (PySem.W.typeIn K (.ref C) = some (.type "type")) && (PySem.W.keepIn K (.ref C) &&
  (decide (PySem.W.findIn K (.ref C) "__init__" = some (some (.ref fI))) && (decide (PySem.W.typeIn K (.ref fI) = some (.type "function")) &&
  ((match K.lookup fI with
  | some ⟨_, _, .func fd, _⟩ => (match fd.closure, fd.defaults, fd.code with
    | [(_, cc)], .none, .ref cda => PySem.W.codeIn K (.ref cda) fd.qualname && ((match K.lookup cc with
      | some ⟨_, _, .cell (some (.ref D)), _⟩ => D == C
      | _ => false) && (match K.lookup cda with
      | some ⟨_, _, .fields vs, _⟩ => (match (vs[2]? : Option Value) with
        | some (.str file _) => (P.main.file : Str) == file
        | _ => false)
      | _ => false))
    | _, _, _ => false)
  | _ => false) &&
  (decide (PySem.W.subIn K (.ref C) (.type "ValueError") = some true) && (decide (PySem.W.mroIn K C (.ref C) = some true) && (decide (PySem.W.ks_superIn K C C "__init__" = some (some (.builtin "ValueError.__init__"))) && (decide (PySem.W.nsIn K cStatics "thirdparty.any" = some none) &&
  (decide (PySem.W.findIn K (.ref C) "limit" = some none) && xfB K C))))))))))))
theorem tmB_ok {P : Program} {K : PySem.W.Frag} {mg : Str → Option Value} {C fI : Addr} {st : Stmt} (h : tmB P K C fI = true) (v : fnV K fI = (some (("__init__" : Str), ("TooMany.__init__" : Str), defArgs st, FuncBody.stmts (defBody st), defScope st, mainGlobals, [("__class__" : Str)], builtinsNs) : FnV)) (ms : mg "super" = none)
    (tp : (P.main.scope.names.lookup ("super" : Str)).isSome = false) : NcTM.TmC P K mg C fI st ∧ XfC K C := by
  obtain ⟨h1, h⟩ := He.ba h
  obtain ⟨h2, h⟩ := He.ba h
  obtain ⟨h3, h⟩ := He.ba h
  obtain ⟨h4, h⟩ := He.ba h
  obtain ⟨h5, h⟩ := He.ba h
  obtain ⟨h6, h⟩ := He.ba h
  obtain ⟨h7, h⟩ := He.ba h
  obtain ⟨h8, h⟩ := He.ba h
  obtain ⟨h9, h⟩ := He.ba h
  obtain ⟨h10, h⟩ := He.ba h
  obtain ⟨h11, h⟩ := He.ba h
  obtain ⟨h12, h⟩ := He.ba h
  obtain ⟨h13, h14⟩ := He.ba h
  refine ⟨⟨⟨?_, of_decide_eq_true h2, of_decide_eq_true h3, of_decide_eq_true h4, h5⟩, of_decide_eq_true h6, of_decide_eq_true h7, ?_, of_decide_eq_true h9, of_decide_eq_true h10, of_decide_eq_true h11, of_decide_eq_true h12, of_decide_eq_true h13, ms, tp⟩, xfB_ok h14⟩
  · split at h1
    · rename_i dd cd sl ho
      split at h1
      · rename_i C' bm k0 k1 k2 k3 n k5 hm hs
        simp only [Bool.and_eq_true, beq_iff_eq, Bool.not_eq_true'] at h1
        obtain ⟨rfl, rfl, hdel, hdc, ht⟩ := h1
        obtain ⟨nm, bs, mro, ns, qn, hd, sn, sub, ab, col, del⟩ := cd
        dsimp only at hm hdel hdc
        subst hm hdel hdc
        have hsl : sl = #[k0, k1, k2, k3, some (.builtin "ValueError.__new__"), k5] := by
          obtain ⟨l⟩ := sl
          simp only at hs
          rw [hs]
        subst hsl
        exact ⟨nm, qn, ns, bs, bm, sn, sub, ab, col, dd, k0, k1, k2, k3, k5, ho, ht⟩
      · cases h1
    · cases h1
  · unfold fnV at v
    split at h8
    · rename_i oc od fd osl ho
      rw [ho] at v
      obtain ⟨n1, n2, n3, n4, n5, n6, n7, n8, n9, n10, n11, n12, n13, n14, n15⟩ := fd
      dsimp only at h8 v
      split at h8
      · rename_i nm cc cda
        simp only [Option.some.injEq, Prod.mk.injEq, List.map_cons, List.map_nil, List.cons.injEq, and_true] at v
        obtain ⟨rfl, rfl, rfl, rfl, rfl, rfl, rfl, rfl⟩ := v
        obtain ⟨c1, h8⟩ := He.ba h8
        obtain ⟨c2, c3⟩ := He.ba h8
        refine ⟨oc, od, osl, _, n9, n10, n11, n14, n12, cda, cc, ho, c1, ?_, ?_⟩
        · split at c2
          · rename_i ho2
            rw [beq_iff_eq] at c2
            subst c2
            exact ⟨_, _, _, ho2⟩
          · cases c2
        · split at c3
          · rename_i vs _ ho2
            split at c3
            · rename_i hv
              exact ⟨_, _, _, _, _, _, ho2, hv, c3⟩
            · cases c3
          · cases c3
      · cases h8
    · cases h8
end NC

end
section
set_option Elab.async false
set_option linter.all false
set_option maxRecDepth 100000
set_option maxHeartbeats 4000000
namespace NcTx
open PySem PySem.Spec PyProof.Rows L2 RZ
section
variable {X : Cx}
/-- a text, several times -/
def repS (x : Str) (n : Nat) : Str := ⟨(List.replicate n x.cps).foldl (· ++ ·) #[]⟩
theorem fold_app : ∀ (l : List (Array Nat)) (a : Array Nat), (l.foldl (· ++ ·) a).toList = a.toList ++ (l.map Array.toList).flatten
  | [], a => by simp
  | x :: l, a => by
    rw [List.foldl_cons, fold_app l (a ++ x)]
    simp
theorem repS_toList (x : Str) (n : Nat) : (repS x n).cps.toList = (List.replicate n x.cps.toList).flatten := by
  unfold repS
  rw [fold_app]
  simp
theorem flat_rep_len {α : Type} (l : List α) : ∀ n, (List.replicate n l).flatten.length = l.length * n
  | 0 => rfl
  | n + 1 => by
    rw [List.replicate_succ, List.flatten_cons, List.length_append, flat_rep_len l n, Nat.mul_succ, Nat.add_comm]
theorem repS_length (x : Str) (n : Nat) : (repS x n).length = x.length * n := by
  have := congrArg List.length (repS_toList x n)
  rw [flat_rep_len, Array.length_toList, Array.length_toList] at this
  exact this
theorem op_mulS : OpR X (binaryOp .Mult) (fun x y H Q => ∃ z n, x = .str z ∧ y = .int n ∧ (2 ≤ n ∧ n ≤ 1000 ∧ 0 < z.length ∧ z.length ≤ 1000) ∧ Q (.str (repS z n.toNat)) H) := by
  intro pins s σ H x y v u Q I rx ry h
  obtain ⟨z, n, rfl, rfl, ⟨h1, h2, h3, h4⟩, q⟩ := h
  obtain ⟨t, rfl⟩ := rx
  obtain ⟨t', rfl⟩ := ry
  have big : z.length * n.toNat ≤ 1000000 := Nat.le_trans (Nat.mul_le_mul h4 (show n.toNat ≤ 1000 by omega)) (by decide)
  have e1 : (n == 1 || z.length == 0) = false := by
    rw [Bool.or_eq_false_iff]
    exact ⟨beq_eq_false_iff_ne.mpr (by omega), beq_eq_false_iff_ne.mpr (by omega)⟩
  refine P.mul_str (by rw [decide_eq_false (by omega), decide_eq_false (by omega)]; rfl) (fun _ _ => ?_) (fun _ _ => ?_) ?_
  · have : (1000 : Int) ≤ (2 ^ 63 - 1) / n := by
      refine Int.le_ediv_of_mul_le (by omega) ?_
      have : (1000 : Int) * n ≤ 1000 * 1000 := Int.mul_le_mul_of_nonneg_left h2 (by decide)
      omega
    omega
  · unfold Builtin.Str.tooLong
    refine decide_eq_false ?_
    rw [sizeLine_eq]
    omega
  · rw [if_neg (by omega), e1]
    refine ⟨?_, .str _, H, I.tok _, ⟨_, rfl⟩, q⟩
    show (repS z n.toNat).length ≤ sizeLine
    rw [repS_length, sizeLine_eq]
    omega
/-- text[::-1] -/
def revS (z : Str) : Str := ⟨z.cps.toList.reverse.toArray⟩
theorem sidx_rev (n : Nat) : Builtin.Str.strSliceIndices none none (-1) n = (List.range n).map fun k => n - 1 - k := by
  have h1 : ¬ ((-1 : Int) > 0) := by decide
  simp only [Builtin.Str.strSliceIndices, sliceRange]
  rw [if_neg h1]
  by_cases hn : n = 0
  · subst hn; rfl
  · simp only [h1, if_false]
    have h2 : ((n : Int) - 1 > -1) := by omega
    rw [if_pos h2]
    have e3 : (((n : Int) - 1 - -1 - -1 - 1) / - -1).toNat = n := by
      simp
    rw [e3]
    refine List.map_congr_left fun k hk => ?_
    have := List.mem_range.mp hk
    omega
theorem fm_congr {α β : Type} {f g : α → Option β} : ∀ {l : List α}, (∀ x ∈ l, f x = g x) → l.filterMap f = l.filterMap g
  | [], _ => rfl
  | x :: l, h => by
    rw [List.filterMap_cons, List.filterMap_cons, h x List.mem_cons_self, fm_congr fun y hy => h y (List.mem_cons_of_mem _ hy)]
theorem get_rev (z : Str) : ((List.range z.length).map fun k => z.length - 1 - k).filterMap (z.cps[·]?) = z.cps.toList.reverse := by
  rw [List.filterMap_map]
  have key : ∀ (l : List Nat), (List.range l.length).filterMap (fun k => l[l.length - 1 - k]?) = l.reverse := fun l => by
    refine List.ext_getElem? fun i => ?_
    have e : (List.range l.length).filterMap (fun k => l[l.length - 1 - k]?) = (List.range l.length).map (fun k => l.getD (l.length - 1 - k) 0) := by
      rw [← List.filterMap_eq_map]
      refine fm_congr fun k hk => ?_
      have := List.mem_range.mp hk
      rw [List.getElem?_eq_getElem (by omega)]
      simp [List.getD_eq_getElem?_getD, List.getElem?_eq_getElem (show l.length - 1 - k < l.length by omega)]
    rw [e]
    by_cases hi : i < l.length
    · rw [List.getElem?_map, List.getElem?_range hi, List.getElem?_reverse hi]
      simp [List.getD_eq_getElem?_getD, List.getElem?_eq_getElem (show l.length - 1 - i < l.length by omega)]
    · rw [List.getElem?_eq_none (by simp; omega), List.getElem?_eq_none (by simp; omega)]
  have h := key z.cps.toList
  rw [Array.length_toList] at h
  rw [← h]
  refine fm_congr fun k _ => ?_
  show z.cps[z.length - 1 - k]? = z.cps.toList[z.cps.size - 1 - k]?
  rw [Array.getElem?_toList]
  rfl
def tRevS (te : TE) : TE := fun σ H Q => te σ H fun x H1 => ∃ z, x = .str z ∧ z.length ≤ sizeLine ∧ Q (.str (revS z)) H1
theorem pe_revS {e : Expr} {te : TE} {k : Nat} {p1 p2 p3 pos : Pos} (he : PE X e te) : PE X (.Subscript e (.Slice none none (some (.UnaryOp .USub (.Constant (.int 1) k p1) p2)) p3) pos) (tRevS te) := by
  refine ⟨fun pins s σ H Q I h => Subscript_ (thn (he.run pins s σ H _ I h) fun v s1 ⟨x, H1, I1, r1, q1⟩ => ?_)⟩
  obtain ⟨z, ex, hz, q⟩ := q1
  subst ex
  obtain ⟨t, rfl⟩ := r1
  have hst : PO X (some (.UnaryOp .USub (.Constant (.int 1) k p1) p2)) (tPart (tUn (rU fun i => .int (-i)) (tC (.int 1)))) := po_some (pe_un un_neg pe_int)
  refine wpAny_Slice (thn (po_none.run pins s1 σ H1 (fun o H2 => o = none ∧ H2 = H1) I1 ⟨rfl, rfl⟩) fun vl s2 ⟨l, H2, I2, pl, el, e2⟩ => ?_)
  subst el e2
  refine thn (po_none.run pins s2 σ H2 (fun o H3 => o = none ∧ H3 = H2) I2 ⟨rfl, rfl⟩) fun vu s3 ⟨u, H3, I3, pu, eu, e3⟩ => ?_
  subst eu e3
  refine thn (hst.run pins s3 σ H3 (fun o H4 => o = some (-1) ∧ H4 = H3) I3 ⟨1, rfl, -1, rfl, rfl, rfl⟩) fun vs s4 ⟨o, H4, I4, ps, eo, e4⟩ => ?_
  subst eo e4
  have I5 : Inv X pins σ H4 { s4 with heap := s4.heap.push { cls := .type "slice", data := .fields #[vl, vu, vs] } } := I4.kept (t' := s4.toks) fun b ob q => Heap.get?_push_of_some _ q
  show wpAny (model X.prog X.w) X.A (subscriptTail e (.Slice none none (some (.UnaryOp .USub (.Constant (.int 1) k p1) p2)) p3) (.str z t) (.ref s4.heap.objs.size)) (EP X pins σ Q) X.xe { s4 with heap := s4.heap.push { cls := .type "slice", data := .fields #[vl, vu, vs] } }
  refine tail_any (ops := [.ref s4.heap.objs.size, .str z t]) (typeIs_str _ z t) PySem.F.slot_str_getitem.lookup ?_ (by with_unfolding_all rfl)
  obtain ⟨os, hos, hcs, hds⟩ := Heap.IsSliceOf.new s4.heap vl vu vs
  obtain ⟨l, rfl, el⟩ := IsPart.raw pl
  obtain ⟨u, rfl, eu⟩ := IsPart.raw pu
  obtain ⟨st, rfl, es⟩ := IsPart.raw ps
  refine wpAny_getItem_str_slice (l := l) (u := u) (st := st) ⟨os, hos, hcs, hds⟩ (by rw [es]; rfl) ?_
  unfold sliceMade slicePicked
  rw [el, eu, es]
  show Made.post (if ((-1 : Int) == 1 && _) = true then _ else _) _ _
  rw [if_neg (by simp)]
  show Made.post (Made.str ⟨((Builtin.Str.strSliceIndices none none (-1) z.length).filterMap (z.cps[·]?)).toArray⟩) (EP X pins σ Q) _
  rw [sidx_rev, get_rev]
  refine ⟨?_, .str _, H4, I5.tok _, ⟨_, rfl⟩, q⟩
  show z.cps.toList.reverse.toArray.size ≤ sizeLine
  rw [List.size_toArray, List.length_reverse, Array.length_toList]
  exact hz
end
end NcTx
namespace NC
open PySem PySem.Spec PyProof.Rows L2 RZ
section
variable {X : Cx} {R : Rz}
/-- a text, times an int -/
def mulSW : W2 := fun p q M Φ => match p, q with
  | .str z, .int n => (2 ≤ n ∧ n ≤ 1000 ∧ 0 < z.length ∧ z.length ≤ 1000) ∧ Φ (.str (NcTx.repS z n.toNat)) M
  | _, _ => False
theorem opd_mulS : OpD X (binaryOp .Mult) mulSW := by
  refine ⟨_, NcTx.op_mulS, fun Z M H p q x y Φ Q s a b t k => ?_⟩
  cases p <;> cases q <;> first | exact t.elim | skip
  exact ⟨_, _, a, b, t.1, k _ _ Z M H s .refl (show Is X.K Z (.str _) (.str _) from rfl) t.2⟩
def dRevS (t : TD) : TD := fun ρ M Φ => t ρ M fun p M1 => match p with
  | .str z => z.length ≤ sizeLine ∧ Φ (.str (NcTx.revS z)) M1
  | _ => False
theorem de_revS {e : Expr} {t : TD} {k : Nat} {p1 p2 p3 pos : Pos} (he : DE X R e t) : DE X R (.Subscript e (.Slice none none (some (.UnaryOp .USub (.Constant (.int 1) k p1) p2)) p3) pos) (dRevS t) := by
  obtain ⟨g1, p1, k1⟩ := he.ex
  refine de_of (NcTx.pe_revS p1) fun Z σ H M ρ Φ Q s en l t k => k1 Z σ H M ρ _ _ s en l t fun p v Z1 M1 H1 s1 r1 a1 q1 => ?_
  cases p <;> first | exact q1.elim | skip
  exact ⟨_, a1, q1.1, k _ _ Z1 M1 H1 s1 r1 (show Is X.K Z1 (.str _) (.str _) from rfl) q1.2⟩
/-- a sign in a text -/
def inSW (neg : Bool) : W2 := fun p q M Φ => match p, q with
  | .str y, .str z => ∃ c, y = ⟨#[c]⟩ ∧ Φ (.bl (if neg then !decide (c ∈ z.cps.toList) else decide (c ∈ z.cps.toList))) M
  | _, _ => False
theorem opd_inS : OpD X (compareOp .In) (inSW false) := by
  refine ⟨_, op_in_sign, fun Z M H p q x y Φ Q s a b t k => ?_⟩
  cases p <;> cases q <;> first | exact t.elim | skip
  obtain ⟨c, rfl, q⟩ := t
  exact ⟨c, _, a, b, k _ _ Z M H s .refl (show Is X.K Z (.bl _) (.bl _) from rfl) q⟩
theorem opd_notinS : OpD X (compareOp .NotIn) (inSW true) := by
  refine ⟨_, op_notIn_sign, fun Z M H p q x y Φ Q s a b t k => ?_⟩
  cases p <;> cases q <;> first | exact t.elim | skip
  obtain ⟨c, rfl, q⟩ := t
  exact ⟨c, _, a, b, k _ _ Z M H s .refl (show Is X.K Z (.bl _) (.bl _) from rfl) q⟩
end
end NC

end
section
set_option Elab.async false
set_option linter.all false
set_option maxRecDepth 100000
set_option maxHeartbeats 4000000
namespace NC
open PySem PySem.Spec PyProof.Rows L2 RZ
/-! ### comprehensions with two clauses -/
def upI (K : PySem.W.Frag) (R : Rz) (ti : TId) : TI := fun σ H Q => ∃ Z M ρ Φ, St K Z M H ∧ EnvOk K Z ρ σ ∧ Lk K R Z M H ∧ ti ρ M Φ ∧ ∀ items J Z1 M1 H1, St K Z1 M1 H1 → Tr Z M H Z1 M1 H1 → WalkP K J Z1 items → Φ items M1 → Q J H1
theorem DI.up {X : Cx} {R : Rz} {tg iter : Expr} {ti : TId} (h : DI X R tg iter ti) : PI X tg iter (upI X.K R ti) := by
  obtain ⟨wi, p, k⟩ := h.ex
  exact ⟨fun pins s σ H Q I ⟨Z, M, ρ, Φ, a, b, c, d, e⟩ => p.run pins s σ H Q I (k Z σ H M ρ Φ Q a b c d e)⟩
/-- the inner clause: each item that passes is put behind -/
def lcB (g : TGd) (tt : TDt) (te : TD) (fin : List P → Mm → Prop) (ρ0 : Rho) : List P → List P → Mm → Prop
  | [], acc, M => fin acc M
  | x :: xs, acc, M => g x ρ0 M fun ρ1 M1 => tt ρ1 M1 fun b M2 => if b = true then te ρ1 M2 fun p M3 => acc.length < sizeLine ∧ lcB g tt te fin ρ0 xs (acc ++ [p]) M3 else lcB g tt te fin ρ0 xs acc M2
def lc2W (g : TGd) (tt : TDt) (ti1 : TId) (g1 : TGd) (tt1 : TDt) (te : TD) (vs1 : List Nat) (fin : List P → Mm → Prop) (ρ0 : Rho) : List P → List P → Mm → Prop
  | [], acc, M => fin acc M
  | x :: xs, acc, M => g x ρ0 M fun ρ1 M1 => tt ρ1 M1 fun b M2 => if b = true then ti1 ρ1 M2 fun items1 M3 => lcB g1 tt1 te (fun acc' M' => lc2W g tt ti1 g1 tt1 te vs1 fin ρ0 xs acc' M') (wipeR ρ1 vs1) items1 acc M3 else lc2W g tt ti1 g1 tt1 te vs1 fin ρ0 xs acc M2
def dLc2 (ti : TId) (g : TGd) (tt : TDt) (ti1 : TId) (g1 : TGd) (tt1 : TDt) (te : TD) (vs vs1 : List Nat) : TD := fun ρ M Φ => ti ρ M fun items M1 => lc2W g tt ti1 g1 tt1 te vs1 (fun acc M => Φ (.lst acc) M) (wipeR ρ vs) items [] M1
theorem wipe_twice (σ : L2.St) (n : List Nat) : L2.wipe (L2.wipe σ n) n = L2.wipe σ n := by
  have key : ∀ (ns ms : List Nat) (τ : L2.St), (∀ i ∈ ns, i ∈ ms) → L2.wipe (L2.wipe τ ns) ms = L2.wipe τ ms := fun ns => by
    induction ns with
    | nil => intro ms τ _; rfl
    | cons a as ih =>
      intro ms τ h
      show L2.wipe ((L2.wipe τ as).set a none) ms = _
      rw [wipe_set (h a List.mem_cons_self)]
      exact ih ms τ fun i hi => h i (List.mem_cons_of_mem _ hi)
  exact key n n σ fun _ h => h
/-- the list in the making, at D, and what is still to be shown of it -/
def Mk (K : PySem.W.Frag) (Z : Hp) (M : Mm) (H Zb : Hp) (D : Addr) (F : List P → Mm → Prop) (H2 : Hp) : Prop :=
  ∃ Z2 M2 acc accV, St K Z2 M2 H2 ∧ Tr Z M H Z2 M2 H2 ∧ Same Zb Z2 ∧ H2 D = some (.lst accV) ∧ Z2 D = none ∧ M2 D = none ∧ IsL K Z2 acc accV ∧ F acc M2
theorem lcB_read {K : PySem.W.Frag} {g : TGd} {tt : TDt} {te : TD} {vs : List Nat} {fin : List P → Mm → Prop} {J : It} {items : List P} {ρ : Rho} {σ : L2.St} {Z Zb Z3 : Hp} {M M3 : Mm} {H H3 : Hp} {D : Addr} {accV acc : List _} {Nx : Hp → Prop}
    (hD0 : H D = none) (s3 : St K Z3 M3 H3) (r3 : Tr Z M H Z3 M3 H3) (zb : Same Zb Z3) (en : EnvOk K Z3 ρ σ) (w : WalkP K J Z3 items) (d3 : H3 D = some (.lst accV)) (dz3 : Z3 D = none) (dm3 : M3 D = none) (l3 : IsL K Z3 acc accV)
    (q : lcB g tt te fin (wipeR ρ vs) items acc M3) (nx : ∀ H', Mk K Z M H Zb D fin H' → Nx H') :
    ∃ W : Nat → Nat → Hp → Prop, (∃ m, W 0 m H3) ∧ ∀ i m H, W i m H →
      (J.stop i H ∧ Nx H) ∨ (J.go i H ∧ ∃ Nx1 : Hp → Prop, (∀ H', Nx1 H' → ∃ m', m' < m ∧ W (i + 1) m' H') ∧ ∀ x H', J.yld i H x H' → upG K vs g x (L2.wipe σ vs) H' fun σ2 H2 => L2.wipe σ2 vs = L2.wipe σ vs ∧ upT K R0 tt σ2 H2 fun b H3 =>
        if b = true then upE K R0 te σ2 H3 fun y H4 => ∃ acc, H4 D = some (.lst acc) ∧ acc.length < sizeLine ∧ Nx1 (upd H4 D (.lst (acc ++ [y]))) else Nx1 H3) := by
  let B : Nat → Hp → Prop := fun i H2 => Mk K Z M H Z3 D (lcB g tt te fin (wipeR ρ vs) (items.drop i)) H2
  refine ⟨fun i m H2 => m = items.length - i ∧ i ≤ items.length ∧ B i H2, ⟨_, rfl, Nat.zero_le _, Z3, M3, acc, accV, s3, r3, Same.refl _, d3, dz3, dm3, l3, by rw [List.drop_zero]; exact q⟩, ?_⟩
  rintro i m H2 ⟨rfl, hle, Z2, M2, acc, accV, s2, r2, z2, d2, dz2, dm2, l2, f2⟩
  obtain ⟨go, stop⟩ := w Z2 M2 H2 s2 z2
  by_cases hlt : i < items.length
  · have hx : items[i]? = some items[i] := by simp [hlt]
    rw [drop_get hx] at f2
    obtain ⟨hgo, yl⟩ := go i _ hx
    refine .inr ⟨hgo, B (i + 1), fun H3 b => ⟨items.length - (i + 1), by omega, rfl, hlt, b⟩, fun x H' y => ?_⟩
    obtain ⟨Z4, s4, r4, a4⟩ := yl x H' y
    refine ⟨Z4, M2, wipeR ρ vs, _, _, s4, ((en.mono (z2.trans r4.z)).wipe vs), a4, f2, fun ρ5 σ5 Z5 M5 H5 s5 r5 e5 q5 hw => ⟨hw.trans (wipe_twice σ vs), ?_⟩⟩
    have r25 := r4.trans r5
    refine ⟨Z5, M5, ρ5, _, s5, e5, .zero, q5, fun b Z6 M6 H6 s6 r6 q6 => ?_⟩
    have r26 := r25.trans r6
    cases b with
    | false =>
      obtain ⟨h6, m6, z6⟩ := r26.k D _ d2 dm2
      exact ⟨Z6, M6, acc, accV, s6, r2.trans r26, z2.trans r26.z, h6, z6.trans dz2, m6, l2.mono r26.z, q6⟩
    | true =>
      refine ⟨Z6, M6, ρ5, _, s6, e5.mono r6.z, .zero, q6, fun p v Z7 M7 H7 s7 r7 a7 q7 => ?_⟩
      have r27 := r26.trans r7
      obtain ⟨h7, m7, z7⟩ := r27.k D _ d2 dm2
      refine ⟨accV, h7, by rw [← l2.length]; exact q7.1, ?_⟩
      have s8 : St K Z7 M7 (upd H7 D (.lst (accV ++ [v]))) := s7.own h7 (z7.trans dz2) m7
      have r28 := r2.trans r27
      refine ⟨Z7, M7, acc ++ [p], accV ++ [v], s8, ⟨r28.z, fun b o hb n => ?_, fun b hb => ?_⟩, z2.trans r27.z, upd_same, z7.trans dz2, m7, (l2.mono r27.z).snoc a7, q7.2⟩
      · obtain ⟨x1, x2, x3⟩ := r28.k b o hb n
        exact ⟨by rw [upd_ne (ne_of_none hb hD0)]; exact x1, x2, x3⟩
      · by_cases hbD : b = D
        · rw [hbD]; exact hD0
        · rw [upd_ne hbD] at hb; exact r28.t b hb
  · have ei : i = items.length := by omega
    subst ei
    rw [List.drop_length] at f2
    exact .inl ⟨stop, nx H2 ⟨Z2, M2, acc, accV, s2, r2, zb.trans z2, d2, dz2, dm2, l2, f2⟩⟩
def upLc2 (K : PySem.W.Frag) (R : Rz) (ti : TId) (g : TGd) (tt : TDt) (ti1 : TId) (g1 : TGd) (tt1 : TDt) (te : TD) (vs vs1 : List Nat) : TE := fun σ H Q => ∃ Z M ρ Φ, St K Z M H ∧ EnvOk K Z ρ σ ∧ Lk K R Z M H ∧ dLc2 ti g tt ti1 g1 tt1 te vs vs1 ρ M Φ ∧ Kp K Z M H Φ Q
theorem lc2_up {K : PySem.W.Frag} {R : Rz} {wi : TI} {ti ti1 : TId} {g g1 : TGd} {tt tt1 : TDt} {te : TD} (k1 : ∀ Z σ H M ρ Φ (Q : It → Hp → Prop), St K Z M H → EnvOk K Z ρ σ → Lk K R Z M H → ti ρ M Φ →
    (∀ items J Z1 M1 H1, St K Z1 M1 H1 → Tr Z M H Z1 M1 H1 → WalkP K J Z1 items → Φ items M1 → Q J H1) → wi σ H Q) {vs vs1 : List Nat} {σ : L2.St} {H : Hp} {Q : VK} (h : upLc2 K R ti g tt ti1 g1 tt1 te vs vs1 σ H Q) :
    tLc2 wi (upG K vs g) (upT K R0 tt) (upI K R0 ti1) (upG K vs1 g1) (upT K R0 tt1) (upE K R0 te) vs vs1 σ H Q := by
  obtain ⟨Z, M, ρ, Φ, s, en0, lk, t, k⟩ := h
  refine k1 Z σ H M ρ _ _ s en0 lk t fun items J Z1 M1 H1 s1 r1 w q => ?_
  have en := en0.mono r1.z
  intro D hD
  have hD0 : H D = none := r1.t D hD
  let B : Nat → Hp → Prop := fun i H2 => Mk K Z M H Z1 D (lc2W g tt ti1 g1 tt1 te vs1 (fun acc M => Φ (.lst acc) M) (wipeR ρ vs) (items.drop i)) H2
  refine ⟨fun i m H2 => m = items.length - i ∧ i ≤ items.length ∧ B i H2, ⟨_, rfl, Nat.zero_le _, ?_⟩, ?_⟩
  · obtain ⟨s2, r2⟩ := s1.tmp (o := .lst []) hD
    exact ⟨Z1, M1, [], [], s2, r1.trans r2, Same.refl _, upd_same, s1.zn hD, s1.mn hD, rfl, by rw [List.drop_zero]; exact q⟩
  rintro i m H2 ⟨rfl, hle, Z2, M2, acc, accV, s2, r2, z2, d2, dz2, dm2, l2, f2⟩
  obtain ⟨go, stop⟩ := w Z2 M2 H2 s2 z2
  by_cases hlt : i < items.length
  · have hx : items[i]? = some items[i] := by simp [hlt]
    rw [drop_get hx] at f2
    obtain ⟨hgo, yl⟩ := go i _ hx
    refine .inr ⟨hgo, B (i + 1), fun H3 b => ⟨items.length - (i + 1), by omega, rfl, hlt, b⟩, fun x H' y => ?_⟩
    obtain ⟨Z3, s3, r3, a3⟩ := yl x H' y
    refine ⟨Z3, M2, wipeR ρ vs, _, _, s3, ((en.mono (z2.trans r3.z)).wipe vs), a3, f2, fun ρ4 σ4 Z4 M4 H4 s4 r4 e4 q4 hw => ⟨hw.trans (wipe_twice σ vs), ?_⟩⟩
    have r24 := r3.trans r4
    refine ⟨Z4, M4, ρ4, _, s4, e4, .zero, q4, fun b Z5 M5 H5 s5 r5 q5 => ?_⟩
    have r25 := r24.trans r5
    obtain ⟨h5, m5, z5⟩ := r25.k D _ d2 dm2
    cases b with
    | false => exact ⟨Z5, M5, acc, accV, s5, r2.trans r25, z2.trans r25.z, h5, z5.trans dz2, m5, l2.mono r25.z, q5⟩
    | true =>
      refine ⟨Z5, M5, ρ4, _, s5, e4.mono r5.z, .zero, q5, fun items1 J1 Z6 M6 H6 s6 r6 w6 q6 => ?_⟩
      have r26 := r25.trans r6
      obtain ⟨h6, m6, z6⟩ := r26.k D _ d2 dm2
      exact lcB_read hD0 s6 (r2.trans r26) (z2.trans r26.z) ((e4.mono r5.z).mono r6.z) w6 h6 (z6.trans dz2) m6 (l2.mono r26.z) q6 fun H' b => b
  · have ei : i = items.length := by omega
    subst ei
    rw [List.drop_length] at f2
    obtain ⟨s3, r3, a3⟩ := own_frz s2 r2 hD0 d2 dz2 dm2 l2
    exact .inl ⟨stop, k (.lst acc) _ _ M2 H2 s3 r3 a3 f2⟩
section
variable {X : Cx} {R : Rz} {elt tg iter tg1 iter1 : Expr} {ifs ifs1 : List Expr} {scope : Scope} {own : List (Str × Nat)} {pos spos : Pos} {ti ti1 : TId} {g g1 : TGd} {tt tt1 : TDt} {te : TD} {vs1 : List Nat}
theorem de_lc2 (hc : X.calm = true) (hN : X.N.Nodup) (hi : DI X R tg iter ti) (ok : BlkOk X.N X.env.scope scope own) (hv : ∀ i ∈ vs1, i ∈ own.map (·.2))
    (hg : Blk X scope fun Y => DGc Y (own.map (·.2)) tg g) (ht : Blk X scope fun Y => DTs Y R0 ifs tt) (hi1 : Blk X scope fun Y => DI Y R0 tg1 iter1 ti1) (hg1 : Blk X scope fun Y => DGc Y vs1 tg1 g1) (ht1 : Blk X scope fun Y => DTs Y R0 ifs1 tt1) (he : Blk X scope fun Y => DE Y R0 elt te)
    (hs : ∀ x, foldedSetIterable iter X.env x = pure x := by intro _; rfl) (hs1 : ∀ env x, foldedSetIterable iter1 env x = pure x := by intro _ _; rfl) :
    DE X R (.ListComp elt [⟨tg, iter, ifs, 0⟩, ⟨tg1, iter1, ifs1, 0⟩] scope pos) (dLc2 ti g tt ti1 g1 tt1 te (own.map (·.2)) vs1) := by
  obtain ⟨wi, p1, k1⟩ := hi.ex
  refine de_of (pe_lc2 (g := upG X.K (own.map (·.2)) g) (tt := upT X.K R0 tt) (wi1 := upI X.K R0 ti1) (g1 := upG X.K vs1 g1) (tt1 := upT X.K R0 tt1) (te := upE X.K R0 te) hc hN p1 ok hv (fun s H C cl fp => (hg s H C cl fp).up) (fun s H C cl fp => (ht s H C cl fp).up) (fun s H C cl fp => (hi1 s H C cl fp).up) (fun s H C cl fp => (hg1 s H C cl fp).up) (fun s H C cl fp => (ht1 s H C cl fp).up) (fun s H C cl fp => (he s H C cl fp).up) hs hs1) fun Z σ H M ρ Φ Q s en l t k => ?_
  exact lc2_up k1 ⟨Z, M, ρ, Φ, s, en, l, t, k⟩
theorem ds_setLc2 {i : Nat} {y : Str} {py : Pos} (hc : X.calm = true) (hN : X.N.Nodup) (hy : X.N[i]? = some y) (hyl : X.env.scope.names.lookup y = some .local)
    (hsw : swapsWith (.ListComp elt [⟨tg, iter, ifs, 0⟩, ⟨tg1, iter1, ifs1, 0⟩] scope pos) (some (.Name y py)) spos.line X.env = pure true) (hi : DI X R tg iter ti) (ok : BlkOk X.N X.env.scope scope own) (hv : ∀ i ∈ vs1, i ∈ own.map (·.2))
    (hg : Blk X scope fun Y => DGc Y (own.map (·.2)) tg g) (ht : Blk X scope fun Y => DTs Y R0 ifs tt) (hi1 : Blk X scope fun Y => DI Y R0 tg1 iter1 ti1) (hg1 : Blk X scope fun Y => DGc Y vs1 tg1 g1) (ht1 : Blk X scope fun Y => DTs Y R0 ifs1 tt1) (he : Blk X scope fun Y => DE Y R0 elt te)
    (hs : ∀ x, foldedSetIterable iter X.env x = pure x := by intro _; rfl) (hs1 : ∀ env x, foldedSetIterable iter1 env x = pure x := by intro _ _; rfl) :
    DS X R (.Assign [.Name y py] (.ListComp elt [⟨tg, iter, ifs, 0⟩, ⟨tg1, iter1, ifs1, 0⟩] scope pos) spos) (dAsg (dLc2 ti g tt ti1 g1 tt1 te (own.map (·.2)) vs1) (gdName i)) := by
  obtain ⟨wi, p1, k1⟩ := hi.ex
  refine ⟨_, ps_setLc2 (i := i) (g := upG X.K (own.map (·.2)) g) (tt := upT X.K R0 tt) (wi1 := upI X.K R0 ti1) (g1 := upG X.K vs1 g1) (tt1 := upT X.K R0 tt1) (te := upE X.K R0 te) hc hN hy hyl hsw p1 ok hv (fun s H C cl fp => (hg s H C cl fp).up) (fun s H C cl fp => (ht s H C cl fp).up) (fun s H C cl fp => (hi1 s H C cl fp).up) (fun s H C cl fp => (hg1 s H C cl fp).up) (fun s H C cl fp => (ht1 s H C cl fp).up) (fun s H C cl fp => (he s H C cl fp).up) hs hs1, fun Z σ H M ρ D D' s en l k t => ?_⟩
  exact lc2_up k1 ⟨Z, M, ρ, _, s, en, l, t, fun p v Z1 M1 H1 s1 r1 a1 q1 => k.nx _ _ Z1 M1 H1 s1 r1 ((en.mono r1.z).put a1 i) q1⟩
/-! ### readings -/
theorem lcB_gen {fin : List P → Mm → Prop} {ρ0 : Rho} (I : List P → List P → Mm → Prop)
    (step : ∀ x xs acc M (k : P → Mm → Prop) (k0 : Mm → Prop), I (x :: xs) acc M → (∀ p M', acc.length < sizeLine ∧ I xs (acc ++ [p]) M' → k p M') → (∀ M', I xs acc M' → k0 M') → g x ρ0 M fun ρ1 M1 => tt ρ1 M1 fun b M2 => if b = true then te ρ1 M2 k else k0 M2)
    (last : ∀ acc M, I [] acc M → fin acc M) : ∀ (items acc : List P) (M : Mm), I items acc M → lcB g tt te fin ρ0 items acc M
  | [], acc, M, h => last acc M h
  | x :: xs, acc, M, h => step x xs acc M _ _ h (fun p M' h' => ⟨h'.1, lcB_gen I step last xs (acc ++ [p]) M' h'.2⟩) (fun M' h' => lcB_gen I step last xs acc M' h')
/-- nothing mutable is written: the items that pass, mapped -/
theorem lcB_pure {fin : List P → Mm → Prop} {ρ0 : Rho} {items acc : List P} {M : Mm} (t : P → Bool) (f : P → P) (hz : acc.length + items.length ≤ sizeLine)
    (step : ∀ x ∈ items, ∀ (k : P → Mm → Prop) (k0 : Mm → Prop), (t x = true → k (f x) M) → (t x = false → k0 M) → g x ρ0 M fun ρ1 M1 => tt ρ1 M1 fun b M2 => if b = true then te ρ1 M2 k else k0 M2)
    (last : fin (acc ++ (items.filter t).map f) M) : lcB g tt te fin ρ0 items acc M := by
  refine lcB_gen (fun xs ac M' => M' = M ∧ (∀ x ∈ xs, x ∈ items) ∧ ac.length + xs.length ≤ sizeLine ∧ ac ++ (xs.filter t).map f = acc ++ (items.filter t).map f) (fun x xs ac M' k k0 h h1 h2 => ?_) (fun ac M' h => ?_) items acc M ⟨rfl, fun _ h => h, hz, rfl⟩
  · obtain ⟨rfl, hm, hl, he⟩ := h
    have hm' : ∀ y ∈ xs, y ∈ items := fun y hy => hm y (List.mem_cons_of_mem _ hy)
    rw [List.length_cons] at hl
    refine step x (hm x List.mem_cons_self) k k0 (fun ht => h1 _ _ ⟨by omega, rfl, hm', by rw [List.length_append, List.length_singleton]; omega, ?_⟩) (fun ht => h2 _ ⟨rfl, hm', by omega, ?_⟩)
    · rw [List.filter_cons_of_pos ht, List.map_cons] at he
      rw [← he, List.append_assoc]; rfl
    · rw [List.filter_cons_of_neg (by rw [ht]; decide)] at he
      exact he
  · obtain ⟨rfl, _, _, he⟩ := h
    simp only [List.filter_nil, List.map_nil, List.append_nil] at he
    rw [he]; exact last
/-- the outer clause, nothing mutable written: for each item a list is put behind -/
theorem lc2_pure {fin : List P → Mm → Prop} {ρ0 : Rho} {items acc : List P} {M : Mm} (f : P → List P)
    (step : ∀ x ∈ items, ∀ (ac : List P) (k : List P → Mm → Prop), ac.length + (f x).length ≤ acc.length + (items.map f).flatten.length → k (ac ++ f x) M → g x ρ0 M fun ρ1 M1 => tt ρ1 M1 fun b M2 => if b = true then ti1 ρ1 M2 fun items1 M3 => lcB g1 tt1 te k (wipeR ρ1 vs1) items1 ac M3 else k ac M2)
    (last : fin (acc ++ (items.map f).flatten) M) : lc2W g tt ti1 g1 tt1 te vs1 fin ρ0 items acc M := by
  have key : ∀ (xs ac : List P), (∀ x ∈ xs, x ∈ items) → ac ++ (xs.map f).flatten = acc ++ (items.map f).flatten → lc2W g tt ti1 g1 tt1 te vs1 fin ρ0 xs ac M := by
    intro xs
    induction xs with
    | nil =>
      intro ac _ e
      simp only [List.map_nil, List.flatten_nil, List.append_nil] at e
      show fin ac M
      rw [e]; exact last
    | cons x xs ih =>
      intro ac hm e
      refine step x (hm x List.mem_cons_self) ac _ ?_ (ih _ (fun y hy => hm y (List.mem_cons_of_mem _ hy)) ?_)
      · have := congrArg List.length e
        rw [List.map_cons, List.flatten_cons] at this
        simp only [List.length_append] at this
        omega
      · rw [← e, List.map_cons, List.flatten_cons, List.append_assoc]
  exact key items acc (fun _ h => h) rfl
end
end NC

end
section
set_option Elab.async false
set_option linter.all false
set_option maxRecDepth 100000
set_option maxHeartbeats 4000000
namespace NcSet
open PySem PyProof.Rows L2
def has (ks : List Key) (k : Key) : Bool := ks.any fun j => decide (k = j)
theorem has_iff {ks : List Key} {k : Key} : has ks k = true ↔ k ∈ ks := by
  unfold has
  rw [List.any_eq_true]
  constructor
  · rintro ⟨j, hj, e⟩
    rw [of_decide_eq_true e]; exact hj
  · exact fun h => ⟨k, h, decide_eq_true rfl⟩
/-- a list of keys, each once, in the order in which they are met -/
def once : List Key → List Key → List Key
  | acc, [] => acc
  | acc, k :: r => if has acc k = true then once acc r else once (acc ++ [k]) r
theorem once_snoc (x : Key) : ∀ (ks acc : List Key), once acc (ks ++ [x]) = if has (once acc ks) x = true then once acc ks else once acc ks ++ [x]
  | [], acc => rfl
  | k :: r, acc => by
    show once acc (k :: (r ++ [x])) = _
    unfold once
    by_cases h : has acc k = true
    · rw [if_pos h, if_pos h]; exact once_snoc x r acc
    · rw [if_neg h, if_neg h]; exact once_snoc x r _
theorem mem_once (j : Key) : ∀ (ks acc : List Key), j ∈ once acc ks ↔ j ∈ acc ∨ j ∈ ks
  | [], acc => by simp [once]
  | k :: r, acc => by
    unfold once
    by_cases h : has acc k = true
    · rw [if_pos h, mem_once j r acc, List.mem_cons]
      constructor
      · rintro (q | q)
        · exact .inl q
        · exact .inr (.inr q)
      · rintro (q | q | q)
        · exact .inl q
        · rw [q]; exact .inl (has_iff.mp h)
        · exact .inr q
    · rw [if_neg h, mem_once j r _, List.mem_append, List.mem_singleton, List.mem_cons, or_assoc]
theorem once_le : ∀ (ks acc : List Key), (once acc ks).length ≤ acc.length + ks.length
  | [], acc => by simp [once]
  | k :: r, acc => by
    unfold once
    by_cases h : has acc k = true
    · rw [if_pos h]
      have := once_le r acc
      rw [List.length_cons]; omega
    · rw [if_neg h]
      have := once_le r (acc ++ [k])
      rw [List.length_append] at this
      rw [List.length_cons]
      simp only [List.length_singleton] at this
      omega
section
variable {P : Program} {w : World} {A : Around} {E : Value → Shared → Prop} {s : Shared}
abbrev newS (w : World) : Obj := { cls := .type "set", dict := none, data := .set #[] 0 (.fresh 0 0 (!w.params.followText "set-order")) }
theorem keep_set {h h' : Heap} {a : Addr} {S : Key → Bool} {n : Nat} (R : h.SetOf (mixKind P w) a S n) (k : ∀ o, h.get? a = some o → h'.get? a = some o) : h'.SetOf (mixKind P w) a S n :=
  let ⟨o, es, ep, t, ho, r⟩ := R
  ⟨o, es, ep, t, k o ho, r⟩
theorem put_keys {I : Addr} {fp wr : List Addr} {G : Array GenState → Array GenState → Prop} {n : Nat} {Pv : Nat → Value → Prop} {St : Nat → Shared → Prop} {R : Result → Shared → Prop}
    (W : WalksS P w A.in1 I fp wr G n Pv St) (S : Addr) (out : S ∉ fp) (ks : List Key) (hn : n = ks.length) (hb : ks.length + 1 < scanBound) (val : ∀ i v, Pv i v → ∃ k, ks[i]? = some k ∧ RelV (kV k) v) :
    ∀ (m i : Nat) (s : Shared), n - i = m → i ≤ n → St i s → s.heap.SetOf (mixKind P w) S (has (ks.take i)) (once [] (ks.take i)).length →
      (∀ s', Moved (S :: wr) G s s' → s'.heap.SetOf (mixKind P w) S (has ks) (once [] ks).length → R (.ok (.ret .none)) s') →
      codeAny (model P w) A (.builtin "set.update.loop" ⟨[.ref S, .ref I], []⟩) R s := by
  have outw : S ∉ wr := fun h => out (W.sub _ h)
  have sub : ∀ b ∈ wr, b ∈ S :: wr := fun b hb => List.mem_cons_of_mem _ hb
  intro m
  induction m with
  | zero =>
    intro i s e hi st hS hR
    obtain rfl : i = n := by omega
    refine codeAny_builtin F.entry_set_update_loop ?_
    rw [Around.under_plainId F.plain_set_update_loop _]
    show wpAny _ A.in1 (pyNext (.ref I) >>= _) _ _ s
    refine wpAny_bind (W.done s _ _ st fun s' mv => wpAny_pure (hR s' (mv.mono sub) ?_))
    have e2 : ks.take i = ks := List.take_of_length_le (by omega)
    rw [e2] at hS
    exact keep_set hS fun o q => mv.heap S o outw q
  | succ m ih =>
    intro i s e hi st hS hR
    have lt : i < n := by omega
    refine codeAny_builtin F.entry_set_update_loop ?_
    rw [Around.under_plainId F.plain_set_update_loop _]
    show wpAny _ A.in1 (pyNext (.ref I) >>= _) _ _ s
    refine wpAny_bind (W.item i s _ _ lt st fun v s' pv st' mv => ?_)
    obtain ⟨z, hz, rz⟩ := val i v pv
    have hS1 : s'.heap.SetOf (mixKind P w) S (has (ks.take i)) (once [] (ks.take i)).length := keep_set hS fun o q => mv.heap S o outw q
    have le := once_le (ks.take i) []
    rw [List.length_nil, Nat.zero_add, List.length_take] at le
    refine wpAny_bind (m := holding [v] (setAdd S v)) (wpAny_holding ?_)
    refine wpAny_holding (wpAny_bind ((mixKind P w).pyHash (k := z) (kV_is rz) ?_))
    refine wpAny_setAddHashed_of (knd := mixKind P w) (s := { s' with toks := s'.toks + 1 }) (kV_is rz) (key_scan rz) hS1 (by omega) fun h' sb hS2 => ?_
    have tk : ks.take (i + 1) = ks.take i ++ [z] := by rw [List.take_add_one, hz]; rfl
    have hS3 : h'.SetOf (mixKind P w) S (has (ks.take (i + 1))) (once [] (ks.take (i + 1))).length := by
      have e1 : (fun k' => has (ks.take i) k' || decide (k' = z)) = has (ks.take (i + 1)) := by
        funext j
        rw [tk]
        unfold has
        rw [List.any_append, List.any_cons, List.any_nil, Bool.or_false]
      have e2 : (if has (ks.take i) z = true then (once [] (ks.take i)).length else (once [] (ks.take i)).length + 1) = (once [] (ks.take (i + 1))).length := by
        rw [tk, once_snoc]
        have q : has (once [] (ks.take i)) z = has (ks.take i) z := by
          rw [Bool.eq_iff_iff, has_iff, has_iff, mem_once]
          simp
        rw [q]
        split
        · rfl
        · rw [List.length_append]; rfl
      rw [← e1, ← e2]
      exact hS2
    refine wpAny_pure ⟨plainId_quiet F.plain_set_update_loop _, ih (i + 1) _ (by omega) lt (W.frame _ s' _ _ st' (Nat.le_succ _) fun b hb o q => ?_) hS3 fun s'' mv2 hS4 => ?_⟩
    · rw [sb.2 b (fun c => out (c ▸ hb))]; exact q
    · refine hR s'' (Moved.trans W.gtrans ((mv.mono sub).then_heap (Nat.le_succ _) fun b o hb q => ?_) mv2) hS4
      rw [sb.2 b (fun c => hb (c ▸ List.mem_cons_self))]; exact q

/-- set(a list or a tuple of keys) -/
theorem set_of_list {l : Addr} {items : Array Value} (ks : List Key) {Q : Value → Shared → Prop} (hh : A.handled = none) (hl : s.heap.IsList l items) (val : ∀ (i : Nat) (v : Value), items[i]? = some v → ∃ k, ks[i]? = some k ∧ RelV (kV k) v) (hn : items.size = ks.length) (hb : ks.length + 1 < scanBound)
    (h : ∀ (h' : Heap) (tk : Nat), h'.SetOf (mixKind P w) s.heap.objs.size (has ks) (once [] ks).length → (∀ b o, s.heap.get? b = some o → h'.get? b = some o) → Q (.ref s.heap.objs.size) { s with heap := h', toks := tk }) :
    wpAny (model P w) A (call (.type "set") [.ref l]) Q E s := by
  have ⟨c, tl, hmro⟩ := F.called_set.mro
  have m1 := F.called_set.made
  have m2 := F.called_set.sub
  have m3 := F.called_set.notType
  have m4 := F.called_set.canCreate
  have m5 := F.typeCall_set_1 (.ref l)
  refine wpAny_call (codeAny_of_tree (wpAny_pure ⟨Code.quiet_builtin _ (by decide +kernel), codeAny_builtin F.entry_type_call ?_⟩))
  rw [Around.under_plain (weight_type_call_type "set" [.ref l] []) rfl]
  repeat (any_goals (first | assumption | wp_step))
  refine codeAny_mono (code_set_led1 (.ref l) (E := E) (Q₁ := fun u s1 => u = .ref s.heap.objs.size ∧ s1 = { s with heap := s.heap.push (newS w) }) ⟨rfl, rfl⟩) fun r s1 hr => ?_
  cases r with
  | error e => exact hr
  | ok fl =>
    cases fl with
    | ret obj =>
      obtain ⟨rfl, rfl⟩ := hr
      have at_ : (s.heap.push (newS w)).get? s.heap.objs.size = some (newS w) := Heap.get?_push_size _ rfl
      have ty : Shared.TypeIs { s with heap := s.heap.push (newS w) } (.ref s.heap.objs.size) "set" := ⟨_, at_, rfl⟩
      have m6 := F.called_set.init.lookup
      have m7 := F.called_set.init.bind (.ref s.heap.objs.size)
      repeat (any_goals (first | assumption | wp_step))
      refine codeAny_mono (codeAny_call_builtin (R := wants (fun r s₂ => r = .none ∧ ∃ h' tk, s₂ = { s with heap := h', toks := tk } ∧ h'.SetOf (mixKind P w) s.heap.objs.size (has ks) (once [] ks).length ∧ (∀ b o, s.heap.get? b = some o → h'.get? b = some o)) E) F.called_set.init.plain F.entry_set_init (check_set_init_1 ty ?_)) fun r₂ s₂ hr₂ => ?_
      · obtain ⟨ol, hol, hcl, nl, hdl⟩ := hl
        obtain ⟨ocls, odict, odata, oslots⟩ := ol
        simp only at hcl hdl
        subst hcl; subst hdl
        have atl : (s.heap.push (newS w)).get? l = some { cls := .type "list", dict := odict, data := .seq items nl, slots := oslots } := Heap.get?_push_of_some _ hol
        have n1 := F.sub_list_set
        have n2 := F.sub_list_frozenset
        have n3 : (Value.type "list" == Value.type "dict") = false := by decide
        have hl1 : (s.heap.push (newS w)).IsList l items := ⟨_, atl, rfl, nl, rfl⟩
        unfold Builtin.«set.__init__» noKeywords Builtin.Frozenset.updateFrom
        generalize hPI : pyIter = PI
        wp_walk
        subst hPI
        have lt : l < s.heap.objs.size := Heap.lt_size hol
        have hh3 : A.in1.in1.in1.handled = none := by simp [hh]
        have nI : l ≠ (s.heap.push (newS w)).objs.size := by
          rw [Heap.size_push]; exact Nat.ne_of_lt (Nat.lt_succ_of_lt lt)
        have out : s.heap.objs.size ∉ [(s.heap.push (newS w)).objs.size, l] := by
          rw [Heap.size_push]
          simp only [List.mem_cons, List.not_mem_nil, or_false, not_or]
          exact ⟨Nat.ne_of_lt (Nat.lt_succ_self _), Nat.ne_of_gt lt⟩
        refine wpAny_pyIter_list hl1 (wpAny_bind (wpAny_runValue ?_))
        refine put_keys ((Walks.list hh3 _ l nI items).toS) s.heap.objs.size out ks hn hb val (items.size - 0) 0 _ (by omega) (Nat.zero_le _) ⟨⟨_, Heap.get?_push_size _ rfl, rfl, rfl⟩, hl1.push _⟩ ?_ ?_
        · exact ⟨_, #[], 0, _, Heap.get?_push_of_some _ at_, ⟨rfl, rfl, rfl⟩, rfl, (fun e he => by simp at he), (fun k => by simp [has]), (by decide), (by rfl), rfl⟩
        · intro s' mv hS'
          obtain ⟨h', g2, d', tk', os'⟩ := s'
          obtain rfl : g2 = s.gens := mv.gens
          obtain rfl : d' = s.drawn := mv.drawn
          obtain rfl : os' = s.os := mv.os
          refine wpAny_pure (wpAny_pure ⟨rfl, h', tk', rfl, hS', fun b o e => ?_⟩)
          have hb0 : b < s.heap.objs.size := Heap.lt_size e
          refine mv.heap b o ?_ (Heap.get?_push_of_some _ (Heap.get?_push_of_some _ e))
          rw [Heap.size_push]
          simp only [List.mem_cons, List.not_mem_nil, or_false, not_or]
          exact ⟨Nat.ne_of_lt hb0, Nat.ne_of_lt (Nat.lt_succ_of_lt hb0)⟩
      · cases r₂ with
        | error e => exact hr₂
        | ok fl₂ =>
          cases fl₂ with
          | ret r =>
            obtain ⟨rfl, h', tk, rfl, hS', hk'⟩ := hr₂
            repeat (any_goals (first | assumption | wp_step))
            exact h _ _ hS' hk'
          | _ => exact hr₂.elim
    | _ => exact hr.elim

/-- set(a list or a tuple of keys) -/
theorem set_of_tuple {l : Addr} {items : Array Value} (ks : List Key) {Q : Value → Shared → Prop} (hh : A.handled = none) (hl : s.heap.IsTuple l items) (val : ∀ (i : Nat) (v : Value), items[i]? = some v → ∃ k, ks[i]? = some k ∧ RelV (kV k) v) (hn : items.size = ks.length) (hb : ks.length + 1 < scanBound)
    (h : ∀ (h' : Heap) (tk : Nat), h'.SetOf (mixKind P w) s.heap.objs.size (has ks) (once [] ks).length → (∀ b o, s.heap.get? b = some o → h'.get? b = some o) → Q (.ref s.heap.objs.size) { s with heap := h', toks := tk }) :
    wpAny (model P w) A (call (.type "set") [.ref l]) Q E s := by
  have ⟨c, tl, hmro⟩ := F.called_set.mro
  have m1 := F.called_set.made
  have m2 := F.called_set.sub
  have m3 := F.called_set.notType
  have m4 := F.called_set.canCreate
  have m5 := F.typeCall_set_1 (.ref l)
  refine wpAny_call (codeAny_of_tree (wpAny_pure ⟨Code.quiet_builtin _ (by decide +kernel), codeAny_builtin F.entry_type_call ?_⟩))
  rw [Around.under_plain (weight_type_call_type "set" [.ref l] []) rfl]
  repeat (any_goals (first | assumption | wp_step))
  refine codeAny_mono (code_set_led1 (.ref l) (E := E) (Q₁ := fun u s1 => u = .ref s.heap.objs.size ∧ s1 = { s with heap := s.heap.push (newS w) }) ⟨rfl, rfl⟩) fun r s1 hr => ?_
  cases r with
  | error e => exact hr
  | ok fl =>
    cases fl with
    | ret obj =>
      obtain ⟨rfl, rfl⟩ := hr
      have at_ : (s.heap.push (newS w)).get? s.heap.objs.size = some (newS w) := Heap.get?_push_size _ rfl
      have ty : Shared.TypeIs { s with heap := s.heap.push (newS w) } (.ref s.heap.objs.size) "set" := ⟨_, at_, rfl⟩
      have m6 := F.called_set.init.lookup
      have m7 := F.called_set.init.bind (.ref s.heap.objs.size)
      repeat (any_goals (first | assumption | wp_step))
      refine codeAny_mono (codeAny_call_builtin (R := wants (fun r s₂ => r = .none ∧ ∃ h' tk, s₂ = { s with heap := h', toks := tk } ∧ h'.SetOf (mixKind P w) s.heap.objs.size (has ks) (once [] ks).length ∧ (∀ b o, s.heap.get? b = some o → h'.get? b = some o)) E) F.called_set.init.plain F.entry_set_init (check_set_init_1 ty ?_)) fun r₂ s₂ hr₂ => ?_
      · obtain ⟨ol, hol, hcl, nl, hdl⟩ := hl
        obtain ⟨ocls, odict, odata, oslots⟩ := ol
        simp only at hcl hdl
        subst hcl; subst hdl
        have atl : (s.heap.push (newS w)).get? l = some { cls := .type "tuple", dict := odict, data := .seq items nl, slots := oslots } := Heap.get?_push_of_some _ hol
        have n1 := F.sub_tuple_set
        have n2 := F.sub_tuple_frozenset
        have n3 : (Value.type "tuple" == Value.type "dict") = false := by decide
        have hl1 : (s.heap.push (newS w)).IsTuple l items := ⟨_, atl, rfl, nl, rfl⟩
        unfold Builtin.«set.__init__» noKeywords Builtin.Frozenset.updateFrom
        generalize hPI : pyIter = PI
        wp_walk
        subst hPI
        have lt : l < s.heap.objs.size := Heap.lt_size hol
        have hh3 : A.in1.in1.in1.handled = none := by simp [hh]
        have nI : l ≠ (s.heap.push (newS w)).objs.size := by
          rw [Heap.size_push]; exact Nat.ne_of_lt (Nat.lt_succ_of_lt lt)
        have out : s.heap.objs.size ∉ [(s.heap.push (newS w)).objs.size, l] := by
          rw [Heap.size_push]
          simp only [List.mem_cons, List.not_mem_nil, or_false, not_or]
          exact ⟨Nat.ne_of_lt (Nat.lt_succ_self _), Nat.ne_of_gt lt⟩
        refine wpAny_pyIter_tuple hl1 (wpAny_bind (wpAny_runValue ?_))
        refine put_keys ((Walks.tuple hh3 _ l nI items).toS) s.heap.objs.size out ks hn hb val (items.size - 0) 0 _ (by omega) (Nat.zero_le _) ⟨⟨_, Heap.get?_push_size _ rfl, rfl, rfl⟩, hl1.push _⟩ ?_ ?_
        · exact ⟨_, #[], 0, _, Heap.get?_push_of_some _ at_, ⟨rfl, rfl, rfl⟩, rfl, (fun e he => by simp at he), (fun k => by simp [has]), (by decide), (by rfl), rfl⟩
        · intro s' mv hS'
          obtain ⟨h', g2, d', tk', os'⟩ := s'
          obtain rfl : g2 = s.gens := mv.gens
          obtain rfl : d' = s.drawn := mv.drawn
          obtain rfl : os' = s.os := mv.os
          refine wpAny_pure (wpAny_pure ⟨rfl, h', tk', rfl, hS', fun b o e => ?_⟩)
          have hb0 : b < s.heap.objs.size := Heap.lt_size e
          refine mv.heap b o ?_ (Heap.get?_push_of_some _ (Heap.get?_push_of_some _ e))
          rw [Heap.size_push]
          simp only [List.mem_cons, List.not_mem_nil, or_false, not_or]
          exact ⟨Nat.ne_of_lt hb0, Nat.ne_of_lt (Nat.lt_succ_of_lt hb0)⟩
      · cases r₂ with
        | error e => exact hr₂
        | ok fl₂ =>
          cases fl₂ with
          | ret r =>
            obtain ⟨rfl, h', tk, rfl, hS', hk'⟩ := hr₂
            repeat (any_goals (first | assumption | wp_step))
            exact h _ _ hS' hk'
          | _ => exact hr₂.elim
    | _ => exact hr.elim
end
end NcSet

end
section
set_option Elab.async false
set_option linter.all false
set_option maxRecDepth 100000
set_option maxHeartbeats 4000000
namespace NC
open PySem PySem.Spec PyProof.Rows L2 RZ
/-! ### answers, plain -/
def growRow (most : Nat) (row : List Int) : List (List Int) := (List.range most).map fun j : Nat => row ++ [1 + (j : Int)]
def growRows (most : Nat) : Nat → List (List Int)
  | 0 => [[]]
  | c + 1 => (growRows most c).flatMap (growRow most)
def answersOf (L : List (List Int)) (most : Nat) : List (List Int) := (growRows most (cols L)).filter (nought L)
theorem growRow_length (most : Nat) (row : List Int) : (growRow most row).length = most := by unfold growRow; rw [List.length_map, List.length_range]
theorem grow_flat (most : Nat) : ∀ rows : List (List Int), (rows.flatMap (growRow most)).length = rows.length * most
  | [] => by simp
  | r :: rs => by rw [List.flatMap_cons, List.length_append, growRow_length, grow_flat most rs, List.length_cons, Nat.succ_mul, Nat.add_comm]
theorem growRows_length (most : Nat) : ∀ c, (growRows most c).length = most ^ c
  | 0 => rfl
  | c + 1 => by
    show ((growRows most c).flatMap (growRow most)).length = _
    rw [grow_flat, growRows_length most c, Nat.pow_succ]
theorem growRows_mem (most : Nat) : ∀ c, ∀ row ∈ growRows most c, row.length = c ∧ ∀ x ∈ row, 1 ≤ x ∧ x ≤ (most : Int)
  | 0, row, h => by rw [List.mem_singleton.mp h]; exact ⟨rfl, fun _ h => nomatch h⟩
  | c + 1, row, h => by
    obtain ⟨r0, h0, h1⟩ := List.mem_flatMap.mp h
    obtain ⟨j, hj, rfl⟩ := List.mem_map.mp h1
    obtain ⟨e1, e2⟩ := growRows_mem most c r0 h0
    have hj := List.mem_range.mp hj
    refine ⟨by rw [List.length_append, e1]; rfl, fun x hx => ?_⟩
    rcases List.mem_append.mp hx with q | q
    · exact e2 x q
    · rw [List.mem_singleton.mp q]; omega
theorem peq_nil (xs : List P) : peq (.lst xs) (.lst []) = xs.isEmpty := by
  rw [show peq (.lst xs) (.lst []) = peqs xs [] by simp [peq]]
  cases xs <;> simp [peqs]
theorem ok_lst {xs : List P} (h1 : fitPs xs = true) (h2 : dpPs xs ≤ 60) : okP (.lst xs) = true := by
  have e : fitP (.lst xs) = true := h1
  have e2 : dpP (.lst xs) = dpPs xs + 1 := rfl
  unfold okP
  rw [e, e2, decide_eq_true (by omega)]; rfl
theorem ok_ones {α : Type} (xs : List α) : okP (.lst (xs.map fun _ => P.int 1)) = true := by
  have e : (xs.map fun _ => P.int 1) = (xs.map fun _ => (1 : Int)).map P.int := by rw [List.map_map]; rfl
  rw [e]
  exact ok_lst (fit_ints _) (by rw [dp_ints]; omega)
def badL (m : List Int) : P → Bool
  | .tup xs => !decide (dot (xs.map intOf) m = 0)
  | _ => false
theorem badL_tupI (m l : List Int) : badL m (tupI l) = !decide (dot l m = 0) := by
  show (!decide (dot ((l.map P.int).map intOf) m = 0)) = _
  rw [ints_int]
theorem bad_nil (L : List (List Int)) (m : List Int) : (((L.map tupI).filter (badL m)).map fun _ => P.int 1).isEmpty = nought L m := by
  unfold nought
  induction L with
  | nil => rfl
  | cons l L ih =>
    rw [List.map_cons, List.all_cons, ← ih]
    have e := badL_tupI m l
    by_cases q : dot l m = 0
    · rw [List.filter_cons_of_neg (by rw [e]; simp [q])]
      simp [q]
    · rw [List.filter_cons_of_pos (by rw [e]; simp [q])]
      simp [q]
/-- a list, each thing once, in the order in which they are met -/
def dedup {α : Type} [DecidableEq α] : List α → List α → List α
  | acc, [] => acc
  | acc, k :: r => if (acc.any fun j => decide (k = j)) = true then dedup acc r else dedup (acc ++ [k]) r
def distinct (row : List Int) : Bool := decide ((dedup [] row).length = row.length)
/-- all answers with numbers up to one; u: with unlike numbers alone -/
def ansU (L : List (List Int)) (most : Nat) (u : Bool) : List (List Int) := (answersOf L most).filter fun row => !u || distinct row
/-- the sign of a place -/
def sg (z : Str) (i : Int) : Str := ⟨#[z.cps.toList.getD (i - 1).toNat 0]⟩
/-- whether an answer is in one colour -/
def mono (z : Str) (row : List Int) : Bool := row.all (fun x => decide (x ≤ (z.length : Int))) && decide ((dedup [] (row.map (sg z))).length = 1)
def oneCol (every : List (List Int)) (z : Str) : Option (List Int) := every.find? (mono z)
def optP : Option (List Int) → P
  | none => .non
  | some row => tupI row
theorem ansU_mem {L : List (List Int)} {most : Nat} {u : Bool} {row : List Int} (h : row ∈ ansU L most u) : row.length = cols L ∧ ∀ x ∈ row, 1 ≤ x ∧ x ≤ (most : Int) :=
  growRows_mem most _ row (List.mem_filter.mp (List.mem_filter.mp h).1).1
theorem ansU_length {L : List (List Int)} {most : Nat} {u : Bool} : (ansU L most u).length ≤ most ^ cols L := by
  refine Nat.le_trans (List.length_filter_le _ _) (Nat.le_trans (List.length_filter_le _ _) ?_)
  rw [growRows_length]
  exact Nat.le_refl _
theorem max_le {ns : List Int} {m b : Int} (h1 : m ∈ ns) (h2 : ∀ y ∈ ns, y ≤ m) : (ns.all fun x => decide (x ≤ b)) = decide (m ≤ b) := by
  rw [Bool.eq_iff_iff, List.all_eq_true, decide_eq_true_eq]
  constructor
  · exact fun h => of_decide_eq_true (h m h1)
  · intro h x hx
    have := h2 x hx
    exact decide_eq_true (by omega)
theorem sg_at {z : Str} {x : Int} (h1 : 1 ≤ x) (h2 : x ≤ (z.length : Int)) : ∃ c, atI z.cps.toList (x - 1) = some c ∧ (⟨#[c]⟩ : Str) = sg z x := by
  have hz : z.cps.toList.length = z.length := Array.length_toList
  have hlt : (x - 1).toNat < z.cps.toList.length := by omega
  refine ⟨z.cps.toList[(x - 1).toNat], ?_, ?_⟩
  · have e : atI z.cps.toList (((x - 1).toNat : Nat) : Int) = some z.cps.toList[(x - 1).toNat] := atI_nat (List.getElem?_eq_getElem hlt)
    rw [Int.toNat_of_nonneg (by omega)] at e
    exact e
  · unfold sg
    rw [List.getD_eq_getElem?_getD, List.getElem?_eq_getElem hlt]; rfl
def RowsOk (c : Nat) (every : List (List Int)) : Prop := ∀ row ∈ every, row.length = c ∧ ∀ x ∈ row, 1 ≤ x
/-! ### texts of signs -/
theorem app_cps (x y : Str) : (x ++ y).cps.toList = x.cps.toList ++ y.cps.toList := by
  show (x.cps ++ y.cps).toList = _
  rw [Array.toList_append]
theorem join_cps : ∀ ys : List Str, (Str.join Str.empty ys).cps.toList = (ys.map (·.cps.toList)).flatten
  | [] => rfl
  | [x] => by simp [Str.join]
  | x :: y :: r => by
    show (x ++ Str.empty ++ Str.join Str.empty (y :: r)).cps.toList = _
    rw [app_cps, app_cps, join_cps (y :: r)]
    show x.cps.toList ++ [] ++ _ = x.cps.toList ++ _
    rw [List.append_nil]
theorem joinT_cps (ys : List Str) : (Txt.join (Str.ofString "") ys).cps.toList = (ys.map (·.cps.toList)).flatten := by
  rw [TL.join_eq]; exact join_cps ys
/-- a text of so many signs "0" .. -/
def Signs (colours : Nat) (z : Str) : Prop := ∀ c ∈ z.cps.toList, 48 ≤ c ∧ c < 48 + colours
theorem digit_str : ∀ i : Fin 10, ((toString (i.val : Int) : Str)).cps.toList = [48 + i.val] := by decide +kernel
theorem digit_at {i : Int} (h0 : 0 ≤ i) (h1 : i < 10) : ((toString i : Str)).cps.toList = [48 + i.toNat] := by
  have := digit_str ⟨i.toNat, by omega⟩
  simp only [Int.toNat_of_nonneg h0] at this
  exact this
theorem str_length (z : Str) : z.length = z.cps.toList.length := Array.length_toList.symm
theorem digits_join {colours : Nat} (hc : colours ≤ 10) : ∀ {is : List Int}, (∀ i ∈ is, 0 ≤ i ∧ i < colours) → (Txt.join (Str.ofString "") (is.map fun i => (toString i : Str))).length = is.length ∧ Signs colours (Txt.join (Str.ofString "") (is.map fun i => (toString i : Str))) := fun {is} h => by
  have e : (Txt.join (Str.ofString "") (is.map fun i => (toString i : Str))).cps.toList = is.map fun i => 48 + i.toNat := by
    rw [joinT_cps, List.map_map]
    induction is with
    | nil => rfl
    | cons i is ih =>
      rw [List.map_cons, List.flatten_cons, ih fun j hj => h j (List.mem_cons_of_mem _ hj)]
      have := h i List.mem_cons_self
      show (toString i : Str).cps.toList ++ _ = _
      rw [digit_at this.1 (by omega)]
      rfl
  refine ⟨by rw [str_length, e, List.length_map], fun c hc => ?_⟩
  rw [e] at hc
  obtain ⟨i, hi, rfl⟩ := List.mem_map.mp hc
  have := h i hi
  omega
end NC

end
section
set_option Elab.async false
set_option linter.all false
set_option maxRecDepth 100000
set_option maxHeartbeats 4000000
namespace NC
open PySem PySem.Spec PyProof.Rows L2 RZ
section
variable {X : Cx} {R : Rz}
theorem vals_at {f : Key → V} : ∀ {ks : List Key} {us : List Value}, Vals (ks.map f) us → ∀ (i : Nat) (v : Value), us[i]? = some v → ∃ k, ks[i]? = some k ∧ RelV (f k) v
  | [], _, .nil, i, v, h => by simp at h
  | k :: ks, _, .cons r t, 0, v, h => by
    simp at h
    exact ⟨k, rfl, h ▸ r⟩
  | k :: ks, _, .cons r t, i + 1, v, h => by
    obtain ⟨k', e, r'⟩ := vals_at t i v (by simpa using h)
    exact ⟨k', by simpa using e, r'⟩
/-- len(set(a list or a tuple of keys)) -/
def tLenSetK (K : PySem.W.Frag) (ta : TE) : TE := fun σ H Q => ta σ H fun x H1 => ∃ (l : Addr) (ks : List Key), x = .ref l ∧ (SqL K H1 l (ks.map kV) ∨ SqT K H1 l (ks.map kV)) ∧ ks.length ≤ 4000 ∧ Q (.int ((NcSet.once [] ks).length : Nat)) H1
theorem pe_lenSetK {a : Expr} {ta : TE} {p p2 q pos : Pos} (hg : Gl X "len") (hm : X.mg "len" = none) (hg2 : Gl X "set") (hm2 : X.mg "set" = none) (ha : PE X a ta) (hc : X.calm = true)
    (na : starEach [a] X.env = (false, eval a X.env) :: starEach [] X.env := by rfl) : PE X (.Call (.Name "len" p) [.Call (.Name "set" p2) [a] [] q] [] pos) (tLenSetK X.K ta) := by
  refine ⟨fun pins s σ H Q I h => Call_ (ld_blt I hg hm boot_len (callWith_builtin1 (args_cons ?_ rfl) rfl rfl))⟩
  refine Call_ (ld_blt I hg2 hm2 boot_set (callWith_type1 (args_cons (thn (ha.run pins s σ H _ I h) fun v s1 ⟨x, H1, I1, r1, q1⟩ => args_nil ?_) na) na rfl))
  obtain ⟨l, ks, rfl, hq, hl, q1⟩ := q1
  cases r1
  have fin : ∀ (h' : Heap) (tk : Nat), h'.SetOf (mixKind X.prog X.w) s1.heap.objs.size (NcSet.has ks) (NcSet.once [] ks).length → (∀ b o, s1.heap.get? b = some o → h'.get? b = some o) →
      wpAny (model X.prog X.w) X.A (call (.builtin "len") [.ref s1.heap.objs.size]) (fun w s2 => ∃ y H2, Inv X pins σ H2 s2 ∧ RelV y w ∧ Q y H2) X.xe { s1 with heap := h', toks := tk } := fun h' tk hS hk => by
    obtain ⟨o, es, ep, t, ho, hex, hd, _, _, hb, hf, hn⟩ := hS
    have hz : (es.size : Int) < 2 ^ 63 := by
      have : es.size < scanBound := hb
      unfold scanBound at this
      omega
    refine call_len_set ho hex hd hf hz ⟨.int ((NcSet.once [] ks).length : Nat), H1, (I1.kept fun b o e => hk b o e).tok _, ⟨_, by rw [hn]⟩, q1⟩
  have hb : ks.length + 1 < scanBound := by unfold scanBound; omega
  rcases hq with hq | hq
  · obtain ⟨its, r, pl, hz⟩ := I1.list hq
    refine NcSet.set_of_list ks (I1.ok.hd hc) pl.isList (fun i v e => vals_at r i v (by simpa using e)) (by rw [List.size_toArray, ← r.length, List.length_map]) hb fun h' tk hS hk => args_nil (fin h' tk hS hk)
  · obtain ⟨its, r, pl, hz⟩ := I1.tuple hq
    refine NcSet.set_of_tuple ks (I1.ok.hd hc) pl (fun i v e => vals_at r i v (by simpa using e)) (by rw [List.size_toArray, ← r.length, List.length_map]) hb fun h' tk hS hk => args_nil (fin h' tk hS hk)
def keyP : Key → P
  | .inl i => .int i
  | .inr x => .str x
theorem isL_keys {K : PySem.W.Frag} {Z : Hp} : ∀ {ks : List Key} {vs : List V}, IsL K Z (ks.map keyP) vs → vs = ks.map kV
  | [], vs, h => h
  | .inl i :: ks, vs, h => by
    obtain ⟨v, r, rfl, a, l⟩ := h
    rw [show v = .int i from a, isL_keys l]; rfl
  | .inr i :: ks, vs, h => by
    obtain ⟨v, r, rfl, a, l⟩ := h
    rw [show v = .str i from a, isL_keys l]; rfl
def lenSetW (p : P) (M : Mm) (Φ : P → Mm → Prop) : Prop := sqW p M fun xs => ∃ ks : List Key, xs = ks.map keyP ∧ ks.length ≤ 4000 ∧ Φ (.int ((NcSet.once [] ks).length : Nat)) M
def dLenSet (t : TD) : TD := fun ρ M Φ => t ρ M fun p M1 => lenSetW p M1 Φ
theorem de_lenSet {a : Expr} {t : TD} {p p2 q pos : Pos} (hc : X.calm = true) (hg : Gl X "len") (hm : X.mg "len" = none) (hg2 : Gl X "set") (hm2 : X.mg "set" = none) (ha : DE X R a t)
    (na : starEach [a] X.env = (false, eval a X.env) :: starEach [] X.env := by rfl) : DE X R (.Call (.Name "len" p) [.Call (.Name "set" p2) [a] [] q] [] pos) (dLenSet t) := by
  obtain ⟨g1, p1, k1⟩ := ha.ex
  refine de_of (pe_lenSetK hg hm hg2 hm2 p1 hc na) fun Z σ H M ρ Φ Q s en l t k => k1 Z σ H M ρ _ _ s en l t fun p v Z1 M1 H1 s1 r1 a1 q1 => ?_
  obtain ⟨xs, b, vs, ⟨ks, e, hl, q2⟩, ev, hq, l1⟩ := sq_of s1 a1 q1
  rw [e] at l1
  rw [isL_keys l1] at hq
  exact ⟨b, ks, ev, hq, hl, k _ _ Z1 M1 H1 s1 r1 (show Is X.K Z1 (.int _) (.int _) from rfl) q2⟩
end
/-! ### len(set(..)), plain -/
theorem once_map {α : Type} [DecidableEq α] {f : α → Key} (inj : ∀ a b, f a = f b → a = b) : ∀ (ns acc : List α), NcSet.once (acc.map f) (ns.map f) = (dedup acc ns).map f
  | [], acc => rfl
  | n :: ns, acc => by
    have e : NcSet.has (acc.map f) (f n) = acc.any fun j => decide (n = j) := by
      unfold NcSet.has
      rw [List.any_map]
      congr 1
      funext j
      show decide (f n = f j) = decide (n = j)
      by_cases h : n = j
      · rw [h]; simp
      · rw [decide_eq_false h, decide_eq_false fun c => h (inj _ _ c)]
    show NcSet.once (acc.map f) (f n :: ns.map f) = _
    unfold NcSet.once dedup
    rw [e]
    split
    · exact once_map inj ns acc
    · rw [show acc.map f ++ [f n] = (acc ++ [n]).map f by simp]
      exact once_map inj ns _
theorem lenSet_ints {ns : List Int} {M : Mm} {Φ : P → Mm → Prop} (hl : ns.length ≤ 4000) (h : Φ (.int ((dedup [] ns).length : Nat)) M) : lenSetW (.tup (ns.map P.int)) M Φ := by
  refine ⟨ns.map Sum.inl, by rw [List.map_map]; rfl, by rw [List.length_map]; exact hl, ?_⟩
  have := once_map (f := (Sum.inl : Int → Key)) (fun a b e => Sum.inl.inj e) ns []
  rw [show ([] : List Int).map (Sum.inl : Int → Key) = [] from rfl] at this
  rw [this, List.length_map]
  exact h
theorem lenSet_strs {ns : List Str} {M : Mm} {Φ : P → Mm → Prop} (hl : ns.length ≤ 4000) (h : Φ (.int ((dedup [] ns).length : Nat)) M) : lenSetW (.lst (ns.map P.str)) M Φ := by
  refine ⟨ns.map Sum.inr, by rw [List.map_map]; rfl, by rw [List.length_map]; exact hl, ?_⟩
  have := once_map (f := (Sum.inr : Str → Key)) (fun a b e => Sum.inr.inj e) ns []
  rw [show ([] : List Str).map (Sum.inr : Str → Key) = [] from rfl] at this
  rw [this, List.length_map]
  exact h
end NC

end
section
set_option Elab.async false
set_option linter.all false
set_option maxRecDepth 100000
set_option maxHeartbeats 4000000
namespace NcMx
open PySem PySem.Spec PyProof.Rows L2
section
variable {prog : Program} {w : World} {A : Around} {E : Value → Shared → Prop} {s : Shared} {l : Addr} {xs : Array (Int × Tok)}
theorem max_tup {Q : Value → Shared → Prop} (hh : A.handled = none) (hl : s.heap.IsTuple l (intItems xs)) (hne : 0 < xs.size)
    (h : ∀ v h' tk, (intItems xs)[argBest (fun i j => decide (numAt xs i > numAt xs j)) (xs.size - 1)]? = some v → (∀ b o, s.heap.get? b = some o → h'.get? b = some o) → Q v { s with heap := h', toks := tk }) :
    wpAny (model prog w) A (call (.builtin "max") [.ref l]) Q E s := by
  have lt : l < s.heap.objs.size := by obtain ⟨_, e, _⟩ := hl; exact Heap.lt_size e
  refine call_max_walk (wpAny_pyIter_tuple hl ?_)
  refine ⟨_, _, _, _, _, _, _, rfl, Walks.tuple (A := A.in1) hh s.heap.objs.size l (Nat.ne_of_lt lt) (intItems xs), ⟨⟨_, Heap.get?_push_size _ rfl, rfl, rfl⟩, hl.push _⟩, fun b hb => ?_, by simpa [intItems] using hne, CmpOf.ints_gt (numAt xs) (fun _ _ => intItems_at), fun v h' tk hP hk => ?_⟩
  · rw [Heap.size_push]
    rcases List.mem_cons.mp hb with e | e
    · rw [e]; exact Nat.lt_succ_self _
    · rw [List.mem_singleton.mp e]; exact Nat.lt_succ_of_lt lt
  · refine h v h' tk (by simpa [intItems] using hP) fun b o e => hk b o (fun hm => ?_) (Heap.get?_push_of_some _ e)
    have := Heap.lt_size e
    rw [List.mem_singleton.mp hm] at this
    exact absurd this (Nat.lt_irrefl _)
theorem max_raw {its : List Value} {ns : List Int} {Q : Value → Shared → Prop} (hh : A.handled = none) (hl : s.heap.IsTuple l its.toArray) (hi : IntsAre its ns) (hne : 0 < ns.length)
    (h : ∀ h' tk m t', (∀ b o, s.heap.get? b = some o → h'.get? b = some o) → m ∈ ns → (∀ a, a ∈ ns → a ≤ m) → Q (.int m t') { s with heap := h', toks := tk }) : wpAny (model prog w) A (call (.builtin "max") [.ref l]) Q E s := by
  obtain ⟨xs, e⟩ := hi.allInts.items
  have hn : numsOf (intItems xs).toList = ns := by rw [← e]; exact hi.numsOf
  rw [nums_intItems] at hn
  subst hn
  rw [e] at hl
  have hsz : 0 < xs.size := by simpa using hne
  refine max_tup hh hl hsz fun v h' tk hv hk => ?_
  obtain ⟨t, rfl⟩ := intItems_at hv
  obtain ⟨h1, h2⟩ := argBest_gt (numAt xs) (xs.size - 1)
  refine h h' tk _ t hk ?_ fun a ha => ?_
  · rw [numAt_eq]; exact PySem.getD_mem (by rw [List.length_map, Array.length_toList]; omega)
  · obtain ⟨j, hj, rfl⟩ := mem_getD ha
    rw [List.length_map, Array.length_toList] at hj
    rw [← numAt_eq]; exact h2 j (by omega)
end
end NcMx
namespace NC
open PySem PySem.Spec PyProof.Rows L2 RZ
section
variable {X : Cx} {R : Rz}
/-! ### max of a tuple of ints -/
def rMaxT (K : PySem.W.Frag) : List V → Hp → VK → Prop := fun vs H Q => ∃ (a : Addr) (ns : List Int), vs = [V.ref a] ∧ SqT K H a (ns.map V.int) ∧ 0 < ns.length ∧ ∀ m, m ∈ ns → (∀ y, y ∈ ns → y ≤ m) → Q (.int m) H
theorem cr_maxT (hc : X.calm = true) : CallR X (.builtin "max") (rMaxT X.K) := by
  intro pins s σ H vs us Q I r h
  obtain ⟨a, ns, rfl, hs, hne, q⟩ := h
  obtain ⟨its, rv, hl, _⟩ := I.tuple hs
  rw [Vals.ref1 r]
  exact NcMx.max_raw (I.ok.hd hc) hl rv.ints hne fun h' tk m t' hk h1 h2 => ⟨.int _, H, I.kept hk, ⟨_, rfl⟩, q m h1 h2⟩
def maxTW : WL := fun ps M Φ => match ps with
  | [.tup xs] => ∃ ns : List Int, xs = ns.map P.int ∧ 0 < ns.length ∧ ∀ m, m ∈ ns → (∀ y, y ∈ ns → y ≤ m) → Φ (.int m) M
  | _ => False
theorem cd_maxT (hc : X.calm = true) : CallD X (.builtin "max") maxTW := by
  refine ⟨_, cr_maxT hc, fun Z M H ps vs Φ Q s a t k => ?_⟩
  match ps, t with
  | [.tup xs], t =>
    obtain ⟨v, e, b⟩ := isL_one a
    obtain ⟨ns, e2, h0, q⟩ := t
    obtain ⟨c, ws, ex, hq, l⟩ := b
    rw [e2] at l
    exact ⟨c, ns, by rw [e, ex], by rw [← l.ints]; exact seqT_same s.z hq, h0, fun m h1 h2 => k _ _ Z M H s .refl (show Is X.K Z (.int _) (.int _) from rfl) (q m h1 h2)⟩
end
end NC

end
section
set_option Elab.async false
set_option linter.all false
set_option maxRecDepth 100000
set_option maxHeartbeats 4000000
set_option exponentiation.threshold 5000
namespace NcSt
open PySem PySem.Spec PyProof.Rows L2
/-! ### larger tables: all slots are met -/
/-- k steps from x on, the slots met written as a number's digits -/
def met (m goal : Nat) : Nat → Nat → Nat → Bool
  | 0, x, a => Nat.beq a goal && Nat.beq x 0
  | k + 1, x, a => bif Nat.ble x m then (bif Nat.ble a goal then met m goal k ((x * 5 + 1) % (m + 1)) (a ||| (1 <<< x)) else false) else false
theorem met_ok (m goal : Nat) : ∀ (k i a : Nat), met m goal k (lcgN m i) a = true → (∀ j, a.testBit j = true → ∃ b, b < i ∧ lcgN m b = j) →
    (∀ j, goal.testBit j = true → ∃ b, b < i + k ∧ lcgN m b = j) ∧ lcgN m (i + k) = 0
  | 0, i, a, h, g => by
    unfold met at h
    rw [Bool.and_eq_true] at h
    obtain ⟨h1, h2⟩ := h
    have e := Nat.eq_of_beq_eq_true h1
    subst e
    exact ⟨g, Nat.eq_of_beq_eq_true h2⟩
  | k + 1, i, a, h, g => by
    unfold met at h
    cases c : Nat.ble (lcgN m i) m with
    | false => rw [c] at h; cases h
    | true =>
      cases d : Nat.ble a goal with
      | false => rw [c, d] at h; cases h
      | true =>
        rw [c, d] at h
        have h' : met m goal k (lcgN m (i + 1)) (a ||| (1 <<< lcgN m i)) = true := h
        have r := met_ok m goal k (i + 1) _ h' fun j hj => by
          rw [Nat.testBit_or, Bool.or_eq_true] at hj
          rcases hj with q | q
          · obtain ⟨b, hb, e⟩ := g j q
            exact ⟨b, Nat.lt_succ_of_lt hb, e⟩
          · rw [Nat.testBit_shiftLeft, Bool.and_eq_true] at q
            obtain ⟨q1, q2⟩ := q
            have q1 := of_decide_eq_true q1
            have q3 : j - lcgN m i = 0 := by
              cases e : j - lcgN m i with
              | zero => rfl
              | succ n =>
                rw [e] at q2
                simp [Nat.testBit_succ] at q2
            exact ⟨i, Nat.lt_succ_self _, by omega⟩
        rw [show i + 1 + k = i + (k + 1) by omega] at r
        exact r
def MaskG (m : Nat) : Prop := m = 7 ∨ m = 31 ∨ m = 127 ∨ m = 511 ∨ m = 2047
theorem met_all : (met 7 (2 ^ 8 - 1) 8 0 0 && met 31 (2 ^ 32 - 1) 32 0 0 && met 127 (2 ^ 128 - 1) 128 0 0 && met 511 (2 ^ 512 - 1) 512 0 0 && met 2047 (2 ^ 2048 - 1) 2048 0 0) = true := by decide +kernel
theorem mask_met {m : Nat} (h : MaskG m) : met m (2 ^ (m + 1) - 1) (m + 1) 0 0 = true := by
  have q := met_all
  simp only [Bool.and_eq_true] at q
  obtain ⟨⟨⟨⟨q1, q2⟩, q3⟩, q4⟩, q5⟩ := q
  rcases h with e | e | e | e | e <;> subst e
  · exact q1
  · exact q2
  · exact q3
  · exact q4
  · exact q5
theorem slot_at {m : Nat} (h : MaskG m) : (∀ j, j ≤ m → ∃ b, b ≤ m ∧ lcgN m b = j) ∧ lcgN m (m + 1) = 0 := by
  obtain ⟨r1, r2⟩ := met_ok m _ (m + 1) 0 0 (mask_met h) fun j hj => by rw [Nat.zero_testBit] at hj; cases hj
  rw [Nat.zero_add] at r2
  refine ⟨fun j hj => ?_, r2⟩
  obtain ⟨b, hb, e⟩ := r1 j (by rw [Nat.testBit_two_pow_sub_one]; exact decide_eq_true (by omega))
  exact ⟨b, by omega, e⟩

theorem loop_mod {m : Nat} (h : MaskG m) : ∀ k, lcgN m (m + 1 + k) = lcgN m k
  | 0 => (slot_at h).2
  | k + 1 => by
    show (lcgN m (m + 1 + k) * 5 + 1) % (m + 1) = (lcgN m k * 5 + 1) % (m + 1)
    rw [loop_mod h k]
theorem slot_from {m : Nat} (hm : MaskG m) {i j : Nat} (hi : i ≤ m) (hj : j ≤ m) : ∃ k, k ≤ m ∧ lcgI m i k = j := by
  obtain ⟨a, ha, ea⟩ := (slot_at hm).1 i hi
  obtain ⟨b, hb, eb⟩ := (slot_at hm).1 j hj
  subst ea
  by_cases c : a ≤ b
  · exact ⟨b - a, by omega, by rw [lcgN_add, show a + (b - a) = b by omega, eb]⟩
  · refine ⟨m + 1 + b - a, by omega, ?_⟩
    rw [lcgN_add, show a + (m + 1 + b - a) = m + 1 + b by omega, loop_mod hm, eb]
theorem start_at {m : Nat} (hm : MaskG m) (h : Int) {j : Nat} (hj : j ≤ m) : ∃ n, n ≤ m + 12 ∧ runI m (SetTable.bits h) n = j := by
  obtain ⟨k, hk, e⟩ := slot_from hm (runI_le m (SetTable.bits h) 12) hj
  exact ⟨12 + k, by omega, by rw [runI_tail (bits_lt h), e]⟩
theorem way_at {m : Nat} (hm : MaskG m) (h : Int) {j : Nat} (hj : j ≤ m) : ∃ k, k < 10 * SetTable.turns m ∧ way m h k = j := by
  obtain ⟨n, hn, e⟩ := start_at hm h hj
  obtain ⟨k, hk, e2⟩ := run_nth m (SetTable.bits h) n
  refine ⟨k, by unfold SetTable.turns; omega, ?_⟩
  show (nth m (runAt m (SetTable.bits h % (m + 1)) (SetTable.bits h)) k).j = j
  rw [e2]
  exact e
theorem way_in {m : Nat} {h : Int} {k : Nat} : way m h k ≤ m := by
  have hi : SetTable.bits h % (m + 1) ≤ m := Nat.le_of_lt_succ (Nat.mod_lt _ (Nat.succ_pos _))
  have r := runEnd_bd hi
  have q := nth_in (m := m) k (runAt m (SetTable.bits h % (m + 1)) (SetTable.bits h)) (by
    show SetTable.bits h % (m + 1) + (SetTable.runEnd m (SetTable.bits h % (m + 1)) - SetTable.bits h % (m + 1)) ≤ m
    omega)
  exact Nat.le_trans (Nat.le_add_right _ _) q
/-- a table all of whose entries are found again -/
structure TabG (t : SetTable) (hs : List Int) : Prop where
  ris : Ris t.place.toList
  dm : t.dummies = #[]
  sz : t.place.toList.length = hs.length
  mok : MaskG t.mask
  bd : ∀ x ∈ t.place.toList, x ≤ t.mask
  reach : ∀ (i : Nat) (h : Int) (j : Nat), hs[i]? = some h → t.place.toList[i]? = some j → ∃ k, way t.mask h k = j ∧ ∀ k', k' < k → way t.mask h k' ∈ t.place.toList
theorem odd_mask {m : Nat} (h : MaskG m) : m % 2 = 1 := by
  rcases h with e | e | e | e | e <;> subst e <;> rfl
theorem TabG.first {t : SetTable} {hs : List Int} (T : TabG t hs) (hl : hs.length ≤ t.mask) (h : Int) : ∃ K, K < 10 * SetTable.turns t.mask ∧ way t.mask h K ∉ t.place.toList ∧ ∀ k, k < K → way t.mask h k ∈ t.place.toList := by
  obtain ⟨j, hj, hn⟩ := st_missing t.place.toList (t.mask + 1) (by rw [T.sz]; omega)
  obtain ⟨k, hk, e⟩ := way_at T.mok h (Nat.le_of_lt_succ hj)
  obtain ⟨K, h1, h2, h3⟩ := st_least (p := fun k => way t.mask h k ∉ t.place.toList) k (by rw [e]; exact hn)
  exact ⟨K, Nat.lt_of_le_of_lt h1 hk, h2, fun k' hk' => Classical.not_not.mp (h3 k' hk')⟩
theorem TabG.before {t : SetTable} {hs : List Int} (T : TabG t hs) {h : Int} {K i j : Nat} (hK : way t.mask h K ∉ t.place.toList) (hi : hs[i]? = some h) (hj : t.place.toList[i]? = some j) : ∃ k, k < K ∧ way t.mask h k = j := by
  obtain ⟨k, e, hb⟩ := T.reach i h j hi hj
  refine ⟨k, Nat.lt_of_not_le fun c => ?_, e⟩
  by_cases d : K = k
  · rw [d, e] at hK; exact hK (List.mem_of_getElem? hj)
  · exact hK (hb K (by omega))
theorem TabG.put {t : SetTable} {hs : List Int} (T : TabG t hs) {h : Int} {K : Nat} (hK : way t.mask h K ∉ t.place.toList) (hb : ∀ k, k < K → way t.mask h k ∈ t.place.toList) :
    (t.put (way t.mask h K)).2 = SetTable.below t.place (way t.mask h K) ∧ SetTable.below t.place (way t.mask h K) ≤ hs.length ∧
    TabG (t.put (way t.mask h K)).1 (hs.take (SetTable.below t.place (way t.mask h K)) ++ h :: hs.drop (SetTable.below t.place (way t.mask h K))) ∧
    (t.put (way t.mask h K)).1.mask = t.mask ∧ (t.put (way t.mask h K)).1.led = t.led ∧ (t.put (way t.mask h K)).1.plain = t.plain ∧ (t.put (way t.mask h K)).1.fill = hs.length + 1 := by
  have le : way t.mask h K ≤ t.mask := way_in
  obtain ⟨j, hj⟩ : ∃ j, j = way t.mask h K := ⟨_, rfl⟩
  rw [← hj] at hK le ⊢
  have c1 := (below_cut T.ris j).1
  have l1 : SetTable.below t.place j ≤ t.place.toList.length := by rw [Array.length_toList]; exact c1
  have l2 : SetTable.below t.place j ≤ hs.length := by rw [← T.sz]; exact l1
  have pl := put_place t j
  have sz : (t.put j).1.place.toList.length = hs.length + 1 := by rw [pl, len_ins _ l1, T.sz]
  have up : ∀ {x : Nat}, x ∈ t.place.toList → x ∈ (t.put j).1.place.toList := fun hx => by rw [pl]; exact mem_ins.2 (.inr hx)
  refine ⟨rfl, l2, ⟨ris_insert T.ris fun e => hK (List.mem_of_getElem? (by rw [Array.getElem?_toList]; exact e)), put_dm T.dm j, by rw [len_ins _ l2]; exact sz, T.mok, fun x hx => ?_, fun i h' j' e1 e2 => ?_⟩, rfl, rfl, rfl, ?_⟩
  · rw [pl] at hx
    rcases mem_ins.1 hx with z | z
    · rw [z]; exact le
    · exact T.bd x z
  · rw [tins_get hs l2] at e1
    rw [pl, tins_get _ l1] at e2
    have old : ∀ i0 : Nat, hs[i0]? = some h' → t.place.toList[i0]? = some j' → ∃ k, way t.mask h' k = j' ∧ ∀ k', k' < k → way t.mask h' k' ∈ (t.put j).1.place.toList := fun i0 a b => by
      obtain ⟨k, e, z⟩ := T.reach i0 h' j' a b
      exact ⟨k, e, fun k' hk' => up (z k' hk')⟩
    show ∃ k, way t.mask h' k = j' ∧ ∀ k', k' < k → way t.mask h' k' ∈ (t.put j).1.place.toList
    by_cases c : i < SetTable.below t.place j
    · rw [if_pos c] at e1 e2
      exact old i e1 e2
    · rw [if_neg c] at e1 e2
      by_cases d : i = SetTable.below t.place j
      · rw [if_pos d] at e1 e2
        cases e1; cases e2
        exact ⟨K, hj.symm, fun k' hk' => up (hb k' hk')⟩
      · rw [if_neg d] at e1 e2
        exact old _ e1 e2
  · show (t.put j).1.place.size + (t.put j).1.dummies.size = hs.length + 1
    rw [put_dm T.dm j, ← Array.length_toList, sz] <;> rfl
/-! ### laid anew -/
theorem free_at {m : Nat} (hm : MaskG m) (owner : Array (Option Nat)) (h : Int) {j : Nat} (hj : j ≤ m) (hf : oAt owner j = none) :
    ∃ K, SetTable.layClean.free m owner (SetTable.turns m) (SetTable.bits h % (m + 1)) (SetTable.bits h) = some (way m h K) ∧ oAt owner (way m h K) = none ∧ ∀ k, k < K → oAt owner (way m h k) ≠ none := by
  obtain ⟨n, hn, e⟩ := start_at hm h hj
  have hw : way m h (off m (SetTable.bits h % (m + 1)) (SetTable.bits h) n) = j := by
    show (nth m (runAt m (SetTable.bits h % (m + 1)) (SetTable.bits h)) (off m (SetTable.bits h % (m + 1)) (SetTable.bits h) n)).j = j
    rw [nth_off, itL_run]
    exact e
  obtain ⟨K, k1, k2, k3⟩ := st_least (p := fun k => oAt owner (way m h k) = none) _ (by rw [hw]; exact hf)
  refine ⟨K, free_spec m owner (SetTable.turns m) n _ _ K (by unfold SetTable.turns; omega) k1 (fun k hk => ?_) ?_, k2, k3⟩
  · have q := k3 k hk
    cases z : oAt owner (nth m (runAt m (SetTable.bits h % (m + 1)) (SetTable.bits h)) k).j with
    | none => exact absurd z q
    | some _ => rfl
  · rw [show oAt owner (nth m (runAt m (SetTable.bits h % (m + 1)) (SetTable.bits h)) K).j = none from k2]; rfl
theorem own_step {m : Nat} (hm : MaskG m) {done : List Int} {owner : Array (Option Nat)} (W : Own m done owner) (hl : done.length ≤ m) (h : Int) :
    ∃ j, SetTable.layClean.free m owner (SetTable.turns m) (SetTable.bits h % (m + 1)) (SetTable.bits h) = some j ∧ Own m (done ++ [h]) (owner.setIfInBounds j (some done.length)) := by
  obtain ⟨ps, hps, hin⟩ := W.ps
  obtain ⟨j0, h0, hn0⟩ := st_missing ps (m + 1) (by omega)
  have hj0 : oAt owner j0 = none := Classical.byContradiction fun q => hn0 (hin j0 (Nat.le_of_lt_succ h0) q)
  obtain ⟨K, e1, e2, e3⟩ := free_at hm owner h (Nat.le_of_lt_succ h0) hj0
  have hjm : way m h K ≤ m := way_in
  have hself := oAt_set_self (some done.length) (show way m h K < owner.size by rw [W.sz]; omega)
  have mono : ∀ {i : Nat}, oAt owner i ≠ none → oAt (owner.setIfInBounds (way m h K) (some done.length)) i ≠ none := fun {i} hi => by
    by_cases c : i = way m h K
    · rw [c, hself]; exact fun e => nomatch e
    · rw [oAt_set_ne _ c]; exact hi
  refine ⟨way m h K, e1, by rw [Array.size_setIfInBounds]; exact W.sz, fun j k hj e => ?_, fun k hk => ?_, ⟨way m h K :: ps, by rw [List.length_cons, List.length_append, hps] <;> rfl, fun j hj e => ?_⟩⟩
  · by_cases c : j = way m h K
    · rw [c, hself] at e
      cases e
      exact ⟨h, K, by rw [List.getElem?_append_right (Nat.le_refl _), Nat.sub_self]; rfl, c.symm, fun k' hk' => mono (e3 k' hk')⟩
    · rw [oAt_set_ne _ c] at e
      obtain ⟨h', K', a1, a2, a3⟩ := W.at_ j k hj e
      exact ⟨h', K', by rw [List.getElem?_append_left (List.getElem?_eq_some_iff.mp a1).1]; exact a1, a2, fun k' hk' => mono (a3 k' hk')⟩
  · rw [List.length_append, List.length_singleton] at hk
    by_cases c : k < done.length
    · obtain ⟨j, hj, e⟩ := W.all k c
      refine ⟨j, hj, ?_⟩
      rw [oAt_set_ne _ (fun z => by rw [z, e2] at e; cases e)]
      exact e
    · rw [show k = done.length by omega]
      exact ⟨way m h K, hjm, hself⟩
  · by_cases c : j = way m h K
    · rw [c]; exact List.mem_cons_self
    · rw [oAt_set_ne _ c] at e
      exact List.mem_cons_of_mem _ (hin j hj e)
theorem fold_lay {m : Nat} (hm : MaskG m) : ∀ (rest done : List Int) (owner : Array (Option Nat)), Own m done owner → done.length + rest.length ≤ m →
    ∃ owner', rest.foldl (stepF m) (some (owner, done.length)) = some (owner', (done ++ rest).length) ∧ Own m (done ++ rest) owner'
  | [], done, owner, W, _ => ⟨owner, by rw [List.append_nil] <;> rfl, by rw [List.append_nil]; exact W⟩
  | h :: rest, done, owner, W, hl => by
    rw [List.length_cons] at hl
    obtain ⟨j, e, W'⟩ := own_step hm W (by omega) h
    obtain ⟨owner', f, W2⟩ := fold_lay hm rest (done ++ [h]) _ W' (by rw [List.length_append, List.length_singleton]; omega)
    rw [List.append_assoc, List.length_append, List.length_singleton] at f
    rw [List.append_assoc] at W2
    exact ⟨owner', by rw [List.foldl_cons, stepF_some e]; exact f, W2⟩
theorem lay_at {m : Nat} (hm : MaskG m) {hs : Array Int} (hn : hs.size ≤ m) : ∃ owner, SetTable.layClean m hs = some owner ∧ Own m hs.toList owner := by
  obtain ⟨owner, f, W⟩ := fold_lay hm hs.toList [] _ (Own.init m) (by rw [Array.length_toList]; show 0 + hs.size ≤ m; omega)
  rw [List.nil_append] at W
  have f' : hs.toList.foldl (stepF m) (some (Array.replicate (m + 1) none, 0)) = some (owner, ([] ++ hs.toList).length) := f
  exact ⟨owner, by rw [layClean_eq, f'] <;> rfl, W⟩
theorem anew_ok (t : SetTable) {hs : Array Int} {wanted M : Nat} (hw : SetTable.sizeAbove wanted - 1 = M) (hM : MaskG M) (hn : hs.size ≤ M) :
    ∃ t' order, t.relaid hs wanted = some (t', order) ∧ order.toList.Perm (List.range hs.size) ∧ TabG t' (order.toList.map fun i => hs.getD i 0) ∧ t'.mask = M ∧ t'.led = t.led ∧ t'.plain = t.plain := by
  obtain ⟨owner, e, W⟩ := lay_at hM hn
  have r := ris_live (fun j => owner.getD j none) (List.range (M + 1)) (by
    unfold Ris
    first | exact List.pairwise_lt_range | exact List.pairwise_lt_range _)
  have r1 : Ris ((liveOf M owner).map (·.1)) := r.1
  have r2 : ∀ x ∈ (liveOf M owner).map (·.1), x ∈ List.range (M + 1) := r.2
  have live : ∀ {j k : Nat}, (j, k) ∈ liveOf M owner ↔ j ≤ M ∧ oAt owner j = some k := mem_live W.sz
  have nd : ((liveOf M owner).map (·.1)).Nodup := by
    have r1' := r1
    unfold Ris at r1'
    exact List.Pairwise.imp (fun h => Nat.ne_of_lt h) r1'
  have len : (liveOf M owner).length = hs.size := by
    obtain ⟨ps, p1, p2⟩ := W.ps
    have a := nat_nodup_len ((liveOf M owner).map (·.1)) ps nd fun x hx => by
      obtain ⟨⟨y, k⟩, hq, rfl⟩ := List.mem_map.mp hx
      obtain ⟨b1, b2⟩ := live.1 hq
      exact p2 y b1 (by rw [b2]; exact fun z => nomatch z)
    have b := nat_nodup_len (List.range hs.size) ((liveOf M owner).map (·.2)) List.nodup_range fun k hk => by
      obtain ⟨j, b1, b2⟩ := W.all k (by rw [Array.length_toList]; exact List.mem_range.mp hk)
      exact List.mem_map.mpr ⟨(j, k), live.2 ⟨b1, b2⟩, rfl⟩
    rw [List.length_map, p1] at a
    have hz : hs.toList.length = hs.size := Array.length_toList
    rw [List.length_map, List.length_range] at b
    omega
  refine ⟨tabOf t M owner, ((liveOf M owner).map (·.2)).toArray, by rw [relaid_eq, hw, e] <;> rfl, ?_, ⟨r1, rfl, ?_, hM, fun x hx => Nat.le_of_lt_succ (List.mem_range.mp (r2 x hx)), fun i h j e1 e2 => ?_⟩, rfl, rfl, rfl⟩
  · refine perm_range hs.size _ (by show ((liveOf M owner).map (·.2)).length = _; rw [List.length_map, len]) fun k hk => ?_
    obtain ⟨j, b1, b2⟩ := W.all k (by rw [Array.length_toList]; exact hk)
    exact List.mem_map.mpr ⟨(j, k), live.2 ⟨b1, b2⟩, rfl⟩
  · show ((liveOf M owner).map (·.1)).length = (((liveOf M owner).map (·.2)).map fun i => hs.getD i 0).length
    rw [List.length_map, List.length_map, List.length_map]
  · have e1 : (((liveOf M owner).map (·.2)).map fun i => hs.getD i 0)[i]? = some h := e1
    have e2 : ((liveOf M owner).map (·.1))[i]? = some j := e2
    rw [List.getElem?_map, List.getElem?_map] at e1
    rw [List.getElem?_map] at e2
    cases q : (liveOf M owner)[i]? with
    | none => rw [q] at e2; cases e2
    | some z =>
      obtain ⟨y, k⟩ := z
      rw [q] at e1 e2
      obtain rfl : y = j := Option.some.inj e2
      have eh : hs.getD k 0 = h := Option.some.inj e1
      obtain ⟨b1, b2⟩ := live.1 (List.mem_of_getElem? q)
      obtain ⟨h0, K, a1, a2, a3⟩ := W.at_ y k b1 b2
      have e0 : hs.getD k 0 = h0 := by rw [Array.getD_eq_getD_getElem?, ← Array.getElem?_toList, a1] <;> rfl
      obtain rfl : h0 = h := e0.symm.trans eh
      refine ⟨K, a2, fun k' hk' => ?_⟩
      show way M h0 k' ∈ (liveOf M owner).map (·.1)
      cases z : oAt owner (way M h0 k') with
      | none => exact absurd z (a3 k' hk')
      | some k2 => exact List.mem_map.mpr ⟨(way M h0 k', k2), live.2 ⟨way_in, z⟩, rfl⟩
theorem size_308 : SetTable.sizeAbove (SetTable.grown 77) = 512 := by decide +kernel
theorem size_1228 : SetTable.sizeAbove (SetTable.grown 307) = 2048 := by decide +kernel
end NcSt

end
section
set_option Elab.async false
set_option linter.all false
set_option maxRecDepth 100000
set_option maxHeartbeats 4000000
namespace NcSt
open PySem PySem.Spec PyProof.Rows L2
abbrev most : Nat := 1200
/-- the set at a, its entries the tuples of L -/
structure SetG (P : Program) (w : World) (h : Heap) (a : Addr) (L : List (Addr × List Int)) (es : Array (Int × Value)) (ep : Nat) (t : SetTable) : Prop where
  ob : ∃ o, h.get? a = some o ∧ o.ExactSet ∧ o.data = .set es ep t
  rows : es.toList = rowsOf P w L
  tab : TabG t (L.map fun p => thash P w p.2)
  nd : (L.map (·.2)).Nodup
  tup : ∀ p ∈ L, IsT P w h p.2 p.1
  plain : t.plain = true
  led : w.params.followText "set-order" = true ∨ t.led = true
  room : L.length * 5 < t.mask * 3
  few : L.length ≤ most
section
variable {P : Program} {w : World} {A : Around} {E : Value → Shared → Prop} {s : Shared} {a : Addr} {L : List (Addr × List Int)} {es : Array (Int × Value)} {ep : Nat} {t : SetTable}
theorem rows_size (h : es.toList = rowsOf P w L) : es.size = L.length := by
  have h := congrArg List.length h
  unfold rowsOf at h
  rw [Array.length_toList, List.length_map] at h
  exact h
theorem SetG.psz (R : SetG P w s.heap a L es ep t) : t.place.toList.length = L.length := by
  have h := R.tab.sz
  rw [List.length_map] at h
  exact h
theorem fits_by (h1 : t.place.toList.length = es.size) (h2 : t.dummies = #[]) (h3 : es.size ≤ t.mask) : t.fits es.size = true := by
  have h1' : t.place.size = es.size := by rw [← Array.length_toList]; exact h1
  unfold SetTable.fits SetTable.fill
  rw [h2, Bool.and_eq_true, beq_iff_eq, decide_eq_true_eq]
  show t.place.size = es.size ∧ t.place.size + 0 ≤ t.mask
  omega
theorem SetG.fits (R : SetG P w s.heap a L es ep t) : t.fits es.size = true := by
  have h1 := R.psz
  have h2 := rows_size R.rows
  have h3 := R.room
  exact fits_by (by omega) R.tab.dm (by omega)
theorem SetG.entry (R : SetG P w s.heap a L es ep t) {i : Nat} {p : Addr × List Int} (h : L[i]? = some p) : es[i]? = some (thash P w p.2, Value.ref p.1) := by
  rw [← Array.getElem?_toList, R.rows]
  unfold rowsOf
  rw [List.getElem?_map, h] <;> rfl
theorem SetG.gw (R : SetG P w s.heap a L es ep t) : ¬ t.gaveWay = true := by
  unfold SetTable.gaveWay
  rw [odd_mask R.tab.mok]
  decide
/-- the c-th state of the way of a hash -/
abbrev st (m : Nat) (h : Int) (c : Nat) : SetTable.Probe := nth m (runAt m (SetTable.bits h % (m + 1)) (SetTable.bits h)) c
theorem st_plain (m : Nat) (h : Int) : ∀ c, (st m h c).dummy = none
  | 0 => rfl
  | c + 1 => by
    show (nth m _ (c + 1)).dummy = none
    rw [nth_succ]
    have q := st_plain m h c
    unfold adv
    split <;> exact q
theorem st_add (m : Nat) (h : Int) (c q : Nat) : nth m (st m h c) q = st m h (c + q) := (nth_add m c _ q).symm
/-- the search from the c-th state on -/
theorem look_from (R : SetG P w s.heap a L es ep t) {x : Addr} {k : List Int} (hx : IsT P w s.heap k x) (hu : A.units < cLine) {K : Nat} (hKf : K < 10 * SetTable.turns t.mask)
    (hK : way t.mask (thash P w k) K ∉ t.place.toList) (hKb : ∀ c, c < K → way t.mask (thash P w k) c ∈ t.place.toList) {Q : SetFound → Shared → Prop}
    (hin : k ∈ L.map (·.2) → Q (.there none) s) (hout : k ∉ L.map (·.2) → Q (.free (way t.mask (thash P w k) K) false) s) :
    ∀ (f c : Nat) (stand : Option SetTable.Probe), stand.getD (t.probeStart (thash P w k)) = st t.mask (thash P w k) c → c ≤ K → K - c < f →
      (∀ (i : Nat) p, L[i]? = some p → p.2 = k → ∃ c', c ≤ c' ∧ c' < K ∧ t.place.toList[i]? = some (way t.mask (thash P w k) c')) →
      wpAny (model P w) A (setSearchFrom a (.ref x) (thash P w k) true f stand) Q E s
  | 0, c, stand, _, _, hf, _ => absurd hf (Nat.not_lt_zero _)
  | f + 1, c, stand, hst, hc, hf, hre => by
    obtain ⟨o, ho, hex, hd⟩ := R.ob
    rw [setSearchFrom_succ]
    refine wpAny_bind (wpAny_setState_of ho hd R.fits ?_)
    dsimp only
    refine wp_if_neg R.gw ?_
    try refine wpAny_bind (wpAny_pure ?_)
    have jw : ∀ q, (nth t.mask (st t.mask (thash P w k) c) q).j = way t.mask (thash P w k) (c + q) := fun q => congrArg SetTable.Probe.j (st_add _ _ c q)
    have spec := go_spec t R.tab.ris R.tab.dm (fun i => (es[i]?.map (·.1)).getD 0) (thash P w k) (10 * SetTable.turns t.mask) (K - c) (st t.mask (thash P w k) c) (st_plain _ _ c) (by omega)
      (fun q hq => by rw [jw]; exact hKb (c + q) (by omega)) (by rw [jw, show c + (K - c) = K by omega]; exact hK)
    have hashAt : ∀ (i : Nat) p, L[i]? = some p → (fun i => (es[i]?.map (·.1)).getD 0) i = thash P w p.2 := fun i p hp => by
      show (es[i]?.map (·.1)).getD 0 = _
      rw [R.entry hp] <;> rfl
    rcases spec with ⟨q, i, hq, hi, hh, hno, hpr⟩ | ⟨hno, hpr⟩
    · have hpr' : t.probe (fun i => (es[i]?.map (·.1)).getD 0) (thash P w k) (stand.getD (t.probeStart (thash P w k))) = some (.candidate (way t.mask (thash P w k) (c + q)) i (st t.mask (thash P w k) (c + (q + 1)))) := by
        rw [hst, ← jw, ← st_add]
        exact hpr
      rw [hpr']
      dsimp only
      rw [jw] at hi
      have hil : i < L.length := by
        have h1 := (List.getElem?_eq_some_iff.mp hi).1
        rw [R.psz] at h1
        exact h1
      obtain ⟨p, hp⟩ : ∃ p, L[i]? = some p := ⟨_, List.getElem?_eq_getElem hil⟩
      have hmem : p ∈ L := List.mem_of_getElem? hp
      have go : wpAny (model P w) A (searchRest a (.ref x) (thash P w k) true f es t (way t.mask (thash P w k) (c + q)) i (st t.mask (thash P w k) (c + (q + 1)))) Q E s := by
        unfold searchRest
        rw [R.entry hp]
        dsimp only
        refine wpAny_bind (wpAny_holding (wpAny_eqBool_tuple hu (R.tup p hmem) hx ?_))
        refine wpAny_bind (wpAny_setState_of ho hd R.fits ?_)
        dsimp only
        by_cases hkk : p.2 = k
        · refine wp_if_pos (by simp [hkk]) ?_
          exact wpAny_pure (hin (List.mem_map.mpr ⟨p, hmem, hkk⟩))
        · refine wp_if_neg (by simp [hkk]) ?_
          try refine wpAny_bind (wpAny_pure ?_)
          rw [sameMem]
          dsimp only
          have hsl : t.slot (way t.mask (thash P w k) (c + q)) = .live i := slot_live R.tab.ris hi
          simp only [if_true, hsl, R.entry hp]
          refine wpAny_bind (wpAny_isSame_ref_self (wpAny_bind (wpAny_pure ?_)))
          simp only [if_true]
          refine wp_if_neg (by simp [hkk]) ?_
          refine look_from R hx hu hKf hK hKb hin hout f (c + (q + 1)) _ rfl (by omega) (by omega) fun i0 p0 h0 hk0 => ?_
          obtain ⟨c', a1, a2, a3⟩ := hre i0 p0 h0 hk0
          refine ⟨c', Nat.lt_of_not_le fun z => ?_, a2, a3⟩
          have z : c' ≤ c + q := z
          by_cases y : c' = c + q
          · rw [y] at a3
            have s0 := slot_live R.tab.ris a3
            rw [hsl] at s0
            injection s0 with s0
            rw [← s0, hp] at h0
            exact hkk ((congrArg Prod.snd (Option.some.inj h0)).trans hk0)
          · refine hno (c' - c) i0 (by omega) (by rw [jw, show c + (c' - c) = c' by omega]; exact a3) ?_
            exact (hashAt i0 p0 h0).trans (congrArg (thash P w) hk0)
      by_cases hl : t.led = true
      · refine wp_if_neg (by simp [hl]) ?_
        try refine wpAny_bind (wpAny_pure ?_)
        exact go
      · refine wp_if_pos (by simp [hl]) ?_
        refine wpAny_bind (seen_tup hx (fun y hy => ?_) ?_)
        · obtain ⟨e, he, ee⟩ := List.mem_map.mp hy
          have he1 : e ∈ es ∧ e.1 = thash P w k := by simpa using he
          have he2 : e ∈ es.toList := by simpa using he1.1
          rw [R.rows] at he2
          obtain ⟨p2, hp2, e2⟩ := List.mem_map.mp he2
          exact ⟨p2.2, p2.1, by rw [← ee, ← e2], R.tup p2 hp2⟩
        · refine wp_if_neg (by decide) ?_
          try refine wpAny_bind (wpAny_pure ?_)
          exact go
    · have hpr' : t.probe (fun i => (es[i]?.map (·.1)).getD 0) (thash P w k) (stand.getD (t.probeStart (thash P w k))) = some (.empty (way t.mask (thash P w k) K) none) := by
        have e2 : way t.mask (thash P w k) K = (nth t.mask (st t.mask (thash P w k) c) (K - c)).j := by rw [jw, show c + (K - c) = K by omega]
        rw [hst, e2]
        exact hpr
      rw [hpr']
      dsimp only
      refine wpAny_pure (hout fun hm => ?_)
      obtain ⟨p0, h0, hk0⟩ := List.mem_map.mp hm
      obtain ⟨i0, h00⟩ := List.mem_iff_getElem?.mp h0
      obtain ⟨c', a1, a2, a3⟩ := hre i0 p0 h00 hk0
      exact hno (c' - c) i0 (by omega) (by rw [jw, show c + (c' - c) = c' by omega]; exact a3) ((hashAt i0 p0 h00).trans (congrArg (thash P w) hk0))
theorem look_at (R : SetG P w s.heap a L es ep t) {x : Addr} {k : List Int} (hx : IsT P w s.heap k x) (hu : A.units < cLine) {Q : SetFound → Shared → Prop}
    (hin : k ∈ L.map (·.2) → Q (.there none) s)
    (hout : ∀ K, k ∉ L.map (·.2) → way t.mask (thash P w k) K ∉ t.place.toList → (∀ c, c < K → way t.mask (thash P w k) c ∈ t.place.toList) → Q (.free (way t.mask (thash P w k) K) false) s) :
    wpAny (model P w) A (setSearch a (.ref x) (thash P w k) true) Q E s := by
  have hroom := R.room
  obtain ⟨K, hKf, hK, hKb⟩ := R.tab.first (by rw [List.length_map]; omega) (thash P w k)
  have hbig : K < 100000 := by
    have : 10 * SetTable.turns t.mask ≤ 90000 := by
      unfold SetTable.turns
      rcases R.tab.mok with e | e | e | e | e <;> omega
    omega
  unfold setSearch
  refine look_from R hx hu hKf hK hKb hin (fun hn => hout K hn hK hKb) 100000 0 none rfl (Nat.zero_le _) (by omega) fun i p hp hk => ?_
  have hi : (L.map fun p => thash P w p.2)[i]? = some (thash P w k) := by rw [List.getElem?_map, hp, ← hk] <;> rfl
  have hil : i < t.place.toList.length := by
    have h1 := (List.getElem?_eq_some_iff.mp hp).1
    rw [R.psz]
    exact h1
  have hj := List.getElem?_eq_getElem hil
  obtain ⟨c, hc, e⟩ := R.tab.before hK hi hj
  exact ⟨c, Nat.zero_le _, hc, by rw [hj, e]⟩
/-- the table laid anew, larger -/
theorem wider_at {o : Obj} (ho : s.heap.get? a = some o) (hex : o.ExactSet) (hd : o.data = .set es ep t) (hrows : es.toList = rowsOf P w L) (hsz : t.place.toList.length = es.size) (hdm : t.dummies = #[]) (hfl : es.size ≤ t.mask)
    (nd : (L.map (·.2)).Nodup) (tup : ∀ p ∈ L, IsT P w s.heap p.2 p.1) (pl : t.plain = true) (ld : w.params.followText "set-order" = true ∨ t.led = true) (few : L.length ≤ most) {wanted M : Nat}
    (hw : SetTable.sizeAbove wanted - 1 = M) (hM : MaskG M) (hw2 : SetTable.sizeAbove wanted ≤ 2048) (hn : L.length * 5 < M * 3) {Q : Unit → Shared → Prop}
    (hQ : ∀ h' L' es' ep' t', Heap.SameBut a s.heap h' → SetG P w h' a L' es' ep' t' → L'.Perm L → Q () { s with heap := h' }) : wpAny (model P w) A (setRelay a wanted) Q E s := by
  have hsl := rows_size hrows
  have few' : L.length ≤ 1200 := few
  obtain ⟨t', order, e, hp, T, em, el, ep'⟩ := anew_ok t (hs := es.map (·.1)) (wanted := wanted) hw hM (by rw [Array.size_map, hsl]; omega)
  rw [Array.size_map, hsl] at hp
  obtain ⟨L2, r1, r2, r3⟩ := order_rows L es order hrows hp
  rw [← r3] at T
  have hs2 : (order.filterMap (es[·]?)).size = es.size := by rw [rows_size r1, r2.length_eq, hsl]
  rw [setRelay_eq]
  refine wpAny_bind (wpAny_setState_of ho hd (fits_by hsz hdm hfl) ?_)
  dsimp only
  refine wp_if_neg (by rw [sizeLine_eq]; omega) ?_
  try refine wpAny_bind (wpAny_pure ?_)
  rw [e]
  dsimp only
  refine wpAny_bind ?_
  refine wp_if_neg (by rw [hs2]; simp) ?_
  try refine wpAny_bind (wpAny_pure ?_)
  refine wpAny_pure ?_
  dsimp only
  refine wpAny_storeSet_of ho hd ?_ (by rw [hs2, hsl, sizeLine_eq]; omega)
  have sb : Heap.SameBut a s.heap (s.heap.update a (Obj.putSet (order.filterMap (es[·]?)) t')) := Heap.SameBut.update ..
  refine hQ _ L2 (order.filterMap (es[·]?)) (ep + 1) t' sb ⟨⟨_, store_at ho hd, ⟨hex.1, hex.2.1, hex.2.2⟩, rfl⟩, r1, T, (r2.map (·.2)).nodup_iff.mpr nd, fun p hpm => isT_same (tup p (r2.mem_iff.mp hpm)) ho hd sb, by rw [ep']; exact pl, by rw [el]; exact ld, ?_, by rw [r2.length_eq]; exact few⟩ r2
  rw [r2.length_eq, em]
  exact hn
/-- a tuple added -/
theorem put_at (R : SetG P w s.heap a L es ep t) {x : Addr} {k : List Int} (hx : IsT P w s.heap k x) (hu : A.units < cLine) (hfew : k ∉ L.map (·.2) → L.length + 1 ≤ most) {Q : Bool → Shared → Prop}
    (hQ : ∀ b h' L' es' ep' t', Heap.SameBut a s.heap h' → SetG P w h' a L' es' ep' t' → (k ∈ L.map (·.2) → L' = L) → (k ∉ L.map (·.2) → L'.Perm ((x, k) :: L)) → Q b { s with heap := h' }) :
    wpAny (model P w) A (setAddHashed a (.ref x) (thash P w k)) Q E s := by
  obtain ⟨o, ho, hex, hd⟩ := R.ob
  have hsl := rows_size R.rows
  have hroom := R.room
  unfold setAddHashed
  refine wpAny_holding ?_
  rw [show (100000 : Nat) = 99999 + 1 from rfl, setAddHashedIn_succ]
  refine wpAny_bind (wpAny_setState_of ho hd R.fits ?_)
  dsimp only
  refine wp_if_neg (by simp [byScan, Value.scannable]) ?_
  try refine wpAny_bind (wpAny_pure ?_)
  refine wpAny_bind (look_at R hx hu (fun hm => ?_) fun K hm hK hb => ?_)
  · dsimp only
    exact wpAny_pure (hQ false s.heap L es ep t (Heap.SameBut.refl a s.heap) R (fun _ => rfl) fun z => absurd hm z)
  · dsimp only
    have hfew := hfew hm
    have hf12 : L.length + 1 ≤ 1200 := hfew
    refine wpAny_bind (wpAny_setState_of ho hd R.fits ?_)
    dsimp only
    obtain ⟨q1, q2, q3, q4, q5, q6, q9⟩ := R.tab.put hK hb
    have hp1 : (t.put (way t.mask (thash P w k) K)).1.plain = true := by rw [q6]; exact R.plain
    generalize hpt : t.put (way t.mask (thash P w k) K) = pt at q1 q3 q4 q5 q6 q9 hp1 ⊢
    obtain ⟨t1, p⟩ := pt
    dsimp only at q1 q3 q4 q5 q6 q9 hp1 ⊢
    subst q1
    first
      | (refine wpAny_bind ?_; refine wp_if_pos hp1 ?_; refine hashBy_tup hx ?_)
      | refine wp_if_pos hp1 (wpAny_bind (hashBy_tup hx ?_))
    simp only [if_true]
    have hin : (SetTable.insertAt es (SetTable.below t.place (way t.mask (thash P w k) K)) (thash P w k, Value.ref x)).toList = rowsOf P w (L.take (SetTable.below t.place (way t.mask (thash P w k) K)) ++ (x, k) :: L.drop (SetTable.below t.place (way t.mask (thash P w k) K))) := by
      rw [SetTable.toList_insertAt, rows_put, R.rows]
    generalize hpp : SetTable.below t.place (way t.mask (thash P w k) K) = p at q2 q3 hin ⊢
    have pm := put_perm L p (x, k)
    have hlen : (L.take p ++ (x, k) :: L.drop p).length = L.length + 1 := pm.length_eq
    have hhs : (L.take p ++ (x, k) :: L.drop p).map (fun p => thash P w p.2) = (L.map fun p => thash P w p.2).take p ++ thash P w k :: (L.map fun p => thash P w p.2).drop p := by
      rw [List.map_append, List.map_cons, List.map_take, List.map_drop]
    rw [← hhs] at q3
    have nd1 : ((L.take p ++ (x, k) :: L.drop p).map (·.2)).Nodup := by
      refine (pm.map (·.2)).nodup_iff.mpr ?_
      rw [List.map_cons]
      exact List.nodup_cons.mpr ⟨hm, R.nd⟩
    have hes := (rows_size hin).trans hlen
    generalize SetTable.insertAt es p (thash P w k, Value.ref x) = es1 at hin hes ⊢
    generalize L.take p ++ (x, k) :: L.drop p = L1 at pm hlen q3 nd1 hin
    refine wpAny_bind (wpAny_storeSet_of ho hd ?_ (by rw [hes, sizeLine_eq]; omega))
    have sb : Heap.SameBut a s.heap (s.heap.update a (Obj.putSet es1 t1)) := Heap.SameBut.update ..
    have ho1 := store_at (es' := es1) (t' := t1) ho hd
    generalize s.heap.update a (Obj.putSet es1 t1) = h1 at sb ho1 ⊢
    have tup1 : ∀ p ∈ L1, IsT P w h1 p.2 p.1 := fun p hp => by
      rcases List.mem_cons.mp (pm.mem_iff.mp hp) with e | hp
      · rw [e]; exact isT_same hx ho hd sb
      · exact isT_same (R.tup p hp) ho hd sb
    have ld1 : w.params.followText "set-order" = true ∨ t1.led = true := by rw [q5]; exact R.led
    rw [List.length_map] at q9
    by_cases hf : t1.tooFull = true
    · first
        | (refine wpAny_bind ?_; refine wp_if_pos (by simp [hf]) ?_)
        | (refine wp_if_pos (by simp [hf]) ?_; refine wpAny_bind ?_)
      have hfull : (L.length + 1) * 5 ≥ t.mask * 3 := by
        have h := hf
        unfold SetTable.tooFull at h
        rw [decide_eq_true_eq, q9, q4] at h
        exact h
      rw [hsl]
      have hsz1 : t1.place.toList.length = es1.size := by
        have h := q3.sz
        rw [List.length_map, hlen] at h
        rw [h, hes]
      have go : ∀ M, SetTable.sizeAbove (SetTable.grown (L.length + 1)) - 1 = M → MaskG M → SetTable.sizeAbove (SetTable.grown (L.length + 1)) ≤ 2048 → (L.length + 1) * 5 < M * 3 → L.length + 1 ≤ t.mask →
          wpAny (model P w) A (setRelay a (SetTable.grown (L.length + 1))) (fun _ s' => wpAny (model P w) A (pure true) Q E s') E { s with heap := h1 } := fun M h1' h2' h3' h4' h5' => by
        refine wider_at (s := { s with heap := h1 }) ho1 ⟨hex.1, hex.2.1, hex.2.2⟩ rfl hin hsz1 q3.dm (by rw [hes, q4]; exact h5') nd1 tup1 hp1 ld1 (by rw [hlen]; exact hfew) h1' h2' h3' (by rw [hlen]; exact h4') ?_
        intro h2 L2 es2 ep2 t2 sb2 R2 pm2
        exact wpAny_pure (hQ true h2 L2 es2 ep2 t2 (sb.trans sb2) R2 (fun z => absurd z hm) fun _ => pm2.trans pm)
      rcases R.tab.mok with e | e | e | e | e <;> rw [e] at hfull hroom
      · obtain e2 : L.length + 1 = 5 := by omega
        exact go 31 (by rw [e2, size_20]) (.inr (.inl rfl)) (by rw [e2, size_20]; decide) (by omega) (by omega)
      · obtain e2 : L.length + 1 = 19 := by omega
        exact go 127 (by rw [e2, size_76]) (.inr (.inr (.inl rfl))) (by rw [e2, size_76]; decide) (by omega) (by omega)
      · obtain e2 : L.length + 1 = 77 := by omega
        exact go 511 (by rw [e2, size_308]) (.inr (.inr (.inr (.inl rfl)))) (by rw [e2, size_308]; decide) (by omega) (by omega)
      · obtain e2 : L.length + 1 = 307 := by omega
        exact go 2047 (by rw [e2, size_1228]) (.inr (.inr (.inr (.inr rfl)))) (by rw [e2, size_1228]; decide) (by omega) (by omega)
      · exfalso; omega
    · first
        | refine wp_if_neg (by simp [hf]) ?_
        | (refine wpAny_bind ?_; refine wp_if_neg (by simp [hf]) ?_; refine wpAny_pure ?_)
      refine wpAny_pure (hQ true h1 L1 es1 (ep + 1) t1 sb ⟨⟨_, ho1, ⟨hex.1, hex.2.1, hex.2.2⟩, rfl⟩, hin, q3, nd1, tup1, hp1, ld1, ?_, by rw [hlen]; exact hfew⟩ (fun z => absurd z hm) fun _ => pm)
      have h := hf
      unfold SetTable.tooFull at h
      rw [decide_eq_true_eq, q9] at h
      rw [hlen]
      omega
end
end NcSt

end
section
set_option Elab.async false
set_option linter.all false
set_option maxRecDepth 100000
set_option maxHeartbeats 4000000
namespace NcSt
open PySem PySem.Spec PyProof.Rows L2
theorem few_of {α : Type} [DecidableEq α] : ∀ (l D : List α), l.Nodup → (∀ x ∈ l, x ∈ D) → l.length ≤ D.length
  | [], _, _, _ => Nat.zero_le _
  | x :: l, D, hn, hs => by
    obtain ⟨h1, h2⟩ := List.nodup_cons.mp hn
    have hx : x ∈ D := hs x List.mem_cons_self
    have ih := few_of l (D.erase x) h2 fun y hy => (List.mem_erase_of_ne (fun e => h1 (by rw [← e]; exact hy))).2 (hs y (List.mem_cons_of_mem _ hy))
    have e := List.length_erase_of_mem hx
    have hp : 0 < D.length := List.length_pos_of_mem hx
    rw [List.length_cons]
    omega
section
variable {P : Program} {w : World} {A : Around} {E : Value → Shared → Prop} {s : Shared}
theorem SetG.keep {h h' : Heap} {a : Addr} {L : List (Addr × List Int)} {es : Array (Int × Value)} {ep : Nat} {t : SetTable} (R : SetG P w h a L es ep t) (ha : ∀ o, h.get? a = some o → h'.get? a = some o) (ht : ∀ p ∈ L, IsT P w h' p.2 p.1) : SetG P w h' a L es ep t := by
  obtain ⟨o, ho, r⟩ := R.ob
  exact ⟨⟨o, ha o ho, r⟩, R.rows, R.tab, R.nd, ht, R.plain, R.led, R.room, R.few⟩
abbrev newS (w : World) : Obj := { cls := .type "set", dict := none, data := .set #[] 0 (.fresh 0 0 (!w.params.followText "set-order")) }
theorem setG_new {h : Heap} {a : Addr} (ho : h.get? a = some (newS w)) : SetG P w h a [] #[] 0 (.fresh 0 0 (!w.params.followText "set-order")) where
  ob := ⟨_, ho, ⟨rfl, rfl, rfl⟩, rfl⟩
  rows := rfl
  tab := ⟨List.Pairwise.nil, rfl, rfl, .inl rfl, fun x hx => (by cases hx), fun i h j hi => (by simp at hi)⟩
  nd := List.nodup_nil
  tup := fun p hp => (by cases hp)
  plain := rfl
  led := by
    show _ ∨ (!w.params.followText "set-order") = true
    cases w.params.followText "set-order"
    · exact .inr rfl
    · exact .inl rfl
  room := by
    show 0 * 5 < 7 * 3
    decide
  few := Nat.zero_le _
/-- the loop of set.update over tuples, their keys among few -/
theorem feed {I : Addr} {fp wr : List Addr} {G : Array GenState → Array GenState → Prop} {n : Nat} {Pv : Nat → Value → Prop} {St : Nat → Shared → Prop} {R : Result → Shared → Prop}
    (W : WalksS P w A.in1 I fp wr G n Pv St) (S : Addr) (out : S ∉ fp) (ks : List (Addr × List Int)) (D : List (List Int)) (hD : D.length ≤ most) (hin : ∀ p ∈ ks, p.2 ∈ D) (hn : n = ks.length) (val : ∀ i v, Pv i v → ∃ p, ks[i]? = some p ∧ v = .ref p.1)
    (h0 : Heap) (hk : ∀ p ∈ ks, IsT P w h0 p.2 p.1) (hS0 : h0.get? S = none) (hw0 : ∀ b ∈ wr, h0.get? b = none) (hu : A.in1.units < cLine) :
    ∀ (k i : Nat) (s : Shared), n - i = k → i ≤ n → St i s → (∀ b o, h0.get? b = some o → s.heap.get? b = some o) → (∃ L es ep t, SetG P w s.heap S L es ep t ∧ Got ks i L) →
      (∀ s' L es ep t, Moved (S :: wr) G s s' → SetG P w s'.heap S L es ep t → Got ks n L → (∀ b o, h0.get? b = some o → s'.heap.get? b = some o) → R (.ok (.ret .none)) s') →
      codeAny (model P w) A (.builtin "set.update.loop" ⟨[.ref S, .ref I], []⟩) R s := by
  have outw : S ∉ wr := fun h => out (W.sub _ h)
  have sub : ∀ b ∈ wr, b ∈ S :: wr := fun b hb => List.mem_cons_of_mem _ hb
  have kept : ∀ {s s' : Shared}, Moved wr G s s' → (∀ b o, h0.get? b = some o → s.heap.get? b = some o) → ∀ b o, h0.get? b = some o → s'.heap.get? b = some o := fun mv kp b o e =>
    mv.heap b o (fun hb => by rw [hw0 b hb] at e; cases e) (kp b o e)
  intro k
  induction k with
  | zero =>
    intro i s e hi st kp ⟨L, es, ep, t, hS, g⟩ hR
    obtain rfl : i = n := by omega
    refine codeAny_builtin F.entry_set_update_loop ?_
    rw [Around.under_plainId F.plain_set_update_loop _]
    show wpAny _ A.in1 (pyNext (.ref I) >>= _) _ _ s
    refine wpAny_bind (W.done s _ _ st fun s' mv => ?_)
    have kp' := kept mv kp
    exact wpAny_pure (hR s' L es ep t (mv.mono sub) (hS.keep (fun o e => mv.heap S o outw e) fun p hp => isT_keep (hk p (List.mem_of_mem_take (g.sub p hp))) kp') g kp')
  | succ k ih =>
    intro i s e hi st kp ⟨L, es, ep, t, hS, g⟩ hR
    have lt : i < n := by omega
    refine codeAny_builtin F.entry_set_update_loop ?_
    rw [Around.under_plainId F.plain_set_update_loop _]
    show wpAny _ A.in1 (pyNext (.ref I) >>= _) _ _ s
    refine wpAny_bind (W.item i s _ _ lt st fun v s' pv st' mv => ?_)
    obtain ⟨p, hp, rfl⟩ := val i v pv
    have kp' := kept mv kp
    have hS' : SetG P w s'.heap S L es ep t := hS.keep (fun o e => mv.heap S o outw e) fun q hq => isT_keep (hk q (List.mem_of_mem_take (g.sub q hq))) kp'
    have hpm := List.mem_of_getElem? hp
    have hx : IsT P w s'.heap p.2 p.1 := isT_keep (hk p hpm) kp'
    show wpAny _ A.in1 (holding [Value.ref p.1] (setAdd S (.ref p.1)) >>= _) _ _ s'
    refine wpAny_bind (wpAny_holding ?_)
    unfold setAdd
    refine wpAny_holding (wpAny_bind (wpAny_pyHash_tuple hu hx ?_))
    refine put_at (s := { s' with toks := s'.toks + (p.2.length + 1) }) hS' hx hu (fun hm => ?_) fun b h' L' es' ep' t' hsb hS2 c1 c2 => ?_
    · have q := few_of (p.2 :: L.map (·.2)) D (List.nodup_cons.mpr ⟨hm, hS.nd⟩) fun y hy => by
        rcases List.mem_cons.mp hy with e | hy
        · rw [e]; exact hin p hpm
        · obtain ⟨r, hr, rfl⟩ := List.mem_map.mp hy
          exact hin r (List.mem_of_mem_take (g.sub r hr))
      rw [List.length_cons, List.length_map] at q
      exact Nat.le_trans q hD
    have g' : Got ks (i + 1) L' := by
      rcases Classical.em (p.2 ∈ L.map (·.2)) with c | c
      · rw [c1 c]; exact g.same hp c
      · exact g.more hp (c2 c)
    have kp2 : ∀ b o, h0.get? b = some o → h'.get? b = some o := fun b o e => (hsb.2 b (fun z => by rw [z, hS0] at e; cases e)).trans (kp' b o e)
    refine wpAny_pure ⟨plainId_quiet F.plain_set_update_loop _, ih (i + 1) _ (by omega) lt (W.frame _ s' _ _ st' (Nat.le_add_right _ _) fun b hb o q => ?_) kp2 ⟨L', es', ep', t', hS2, g'⟩ fun s'' L2 es2 ep2 t2 mv2 hS4 g4 kp4 => ?_⟩
    · rw [hsb.2 b (fun c : b = S => out (c ▸ hb))]; exact q
    · refine hR s'' L2 es2 ep2 t2 (Moved.trans W.gtrans ((mv.mono sub).then_heap (Nat.le_add_right _ _) fun b o hb q => ?_) mv2) hS4 g4 kp4
      rw [hsb.2 b (fun c : b = S => hb (c ▸ List.mem_cons_self))]; exact q
/-- set(a list of tuples of ints) -/
theorem set_tups {l : Addr} {items : Array Value} (ks : List (Addr × List Int)) (D : List (List Int)) (hD : D.length ≤ most) (hin : ∀ p ∈ ks, p.2 ∈ D) {Q : Value → Shared → Prop} (hh : A.handled = none) (hl : s.heap.IsList l items) (hit : items.toList = ks.map fun p => Value.ref p.1)
    (hk : ∀ p ∈ ks, IsT P w s.heap p.2 p.1) (hu : A.units + 3 < cLine)
    (h : ∀ (h' : Heap) (tk : Nat) L es ep t, SetG P w h' s.heap.objs.size L es ep t → Got ks ks.length L → (∀ b o, s.heap.get? b = some o → h'.get? b = some o) → Q (.ref s.heap.objs.size) { s with heap := h', toks := tk }) :
    wpAny (model P w) A (call (.type "set") [.ref l]) Q E s := by
  have hn : items.size = ks.length := by
    have q := congrArg List.length hit
    rw [Array.length_toList, List.length_map] at q
    exact q
  have ⟨c, tl, hmro⟩ := F.called_set.mro
  have m1 := F.called_set.made
  have m2 := F.called_set.sub
  have m3 := F.called_set.notType
  have m4 := F.called_set.canCreate
  have m5 := F.typeCall_set_1 (.ref l)
  refine wpAny_call (codeAny_of_tree (wpAny_pure ⟨Code.quiet_builtin _ (by decide +kernel), codeAny_builtin F.entry_type_call ?_⟩))
  rw [Around.under_plain (weight_type_call_type "set" [.ref l] []) rfl]
  repeat (any_goals (first | assumption | wp_step))
  refine codeAny_mono (code_set_led1 (.ref l) (E := E) (Q₁ := fun u s1 => u = .ref s.heap.objs.size ∧ s1 = { s with heap := s.heap.push (newS w) }) ⟨rfl, rfl⟩) fun r s1 hr => ?_
  cases r with
  | error e => exact hr
  | ok fl =>
    cases fl with
    | ret obj =>
      obtain ⟨rfl, rfl⟩ := hr
      have at_ : (s.heap.push (newS w)).get? s.heap.objs.size = some (newS w) := Heap.get?_push_size _ rfl
      have ty : Shared.TypeIs { s with heap := s.heap.push (newS w) } (.ref s.heap.objs.size) "set" := ⟨_, at_, rfl⟩
      have m6 := F.called_set.init.lookup
      have m7 := F.called_set.init.bind (.ref s.heap.objs.size)
      repeat (any_goals (first | assumption | wp_step))
      refine codeAny_mono (codeAny_call_builtin (R := wants (fun r s₂ => r = .none ∧ ∃ h' tk L es ep t, s₂ = { s with heap := h', toks := tk } ∧ SetG P w h' s.heap.objs.size L es ep t ∧ Got ks ks.length L ∧ (∀ b o, s.heap.get? b = some o → h'.get? b = some o)) E) F.called_set.init.plain F.entry_set_init (check_set_init_1 ty ?_)) fun r₂ s₂ hr₂ => ?_
      · obtain ⟨ol, hol, hcl, nl, hdl⟩ := hl
        obtain ⟨ocls, odict, odata, oslots⟩ := ol
        simp only at hcl hdl
        subst hcl; subst hdl
        have atl : (s.heap.push (newS w)).get? l = some { cls := .type "list", dict := odict, data := .seq items nl, slots := oslots } := Heap.get?_push_of_some _ hol
        have n1 := F.sub_list_set
        have n2 := F.sub_list_frozenset
        have n3 : (Value.type "list" == Value.type "dict") = false := by decide
        have hl1 : (s.heap.push (newS w)).IsList l items := ⟨_, atl, rfl, nl, rfl⟩
        unfold Builtin.«set.__init__» noKeywords Builtin.Frozenset.updateFrom
        generalize hPI : pyIter = PI
        wp_walk
        subst hPI
        have lt : l < s.heap.objs.size := Heap.lt_size hol
        have hh3 : A.in1.in1.in1.handled = none := by simp [hh]
        have nI : l ≠ (s.heap.push (newS w)).objs.size := by
          rw [Heap.size_push]; exact Nat.ne_of_lt (Nat.lt_succ_of_lt lt)
        have out : s.heap.objs.size ∉ [(s.heap.push (newS w)).objs.size, l] := by
          rw [Heap.size_push]
          simp only [List.mem_cons, List.not_mem_nil, or_false, not_or]
          exact ⟨Nat.ne_of_lt (Nat.lt_succ_self _), Nat.ne_of_gt lt⟩
        have val : ∀ (i : Nat) (v : Value), items[i]? = some v → ∃ p, ks[i]? = some p ∧ v = .ref p.1 := fun i v hv => by
          have q : items.toList[i]? = some v := by rw [Array.getElem?_toList]; exact hv
          rw [hit, List.getElem?_map] at q
          cases hq : ks[i]? with
          | none => rw [hq] at q; cases q
          | some p =>
            rw [hq] at q
            exact ⟨p, rfl, (Option.some.inj q).symm⟩
        have gone : ∀ b, s.heap.objs.size ≤ b → s.heap.get? b = none := fun b hb => by
          cases q : s.heap.get? b with
          | none => rfl
          | some o => exact absurd (Nat.lt_of_lt_of_le (Heap.lt_size q) hb) (Nat.lt_irrefl _)
        refine wpAny_pyIter_list hl1 (wpAny_bind (wpAny_runValue ?_))
        refine feed ((Walks.list hh3 _ l nI items).toS) s.heap.objs.size out ks D hD hin hn val s.heap hk (gone _ (Nat.le_refl _)) (fun b hb => gone b (by
            rw [List.mem_singleton.mp hb, Heap.size_push]
            exact Nat.le_succ _)) hu (items.size - 0) 0 _ (by omega) (Nat.zero_le _) ⟨⟨_, Heap.get?_push_size _ rfl, rfl, rfl⟩, hl1.push _⟩ (fun b o e => Heap.get?_push_of_some _ (Heap.get?_push_of_some _ e)) ?_ ?_
        · exact ⟨[], #[], 0, _, setG_new (Heap.get?_push_of_some _ at_), Got.zero ks⟩
        · intro s' L es ep t mv hS' g' kp
          obtain ⟨h', g2, d', tk', os'⟩ := s'
          obtain rfl : g2 = s.gens := mv.gens
          obtain rfl : d' = s.drawn := mv.drawn
          obtain rfl : os' = s.os := mv.os
          rw [hn] at g'
          exact wpAny_pure (wpAny_pure ⟨rfl, h', tk', L, es, ep, t, rfl, hS', g', kp⟩)
      · cases r₂ with
        | error e => exact hr₂
        | ok fl₂ =>
          cases fl₂ with
          | ret r =>
            obtain ⟨rfl, h', tk, L, es, ep, t, rfl, hS', g', hk'⟩ := hr₂
            repeat (any_goals (first | assumption | wp_step))
            exact h _ _ _ _ _ _ hS' g' hk'
          | _ => exact hr₂.elim
    | _ => exact hr.elim
/-! ### sorted -/
theorem shape_ints {k : List Int} {vs : List Value} (h : IntsAre vs k) : ∀ i, tupItems (fun _ => false) i vs = some (k.map Sum.inl) := by
  induction h with
  | nil => intro i; rfl
  | @cons k0 t vs ks _ ih =>
    intro i
    show (tupItems (fun _ => false) (i + 1) _).map (Sum.inl k0 :: ·) = _
    rw [ih (i + 1)]; rfl
theorem sorted_g {a : Addr} {L : List (Addr × List Int)} {es : Array (Int × Value)} {ep : Nat} {t : SetTable} {Q : Value → Shared → Prop} (R : SetG P w s.heap a L es ep t) (hh : A.handled = none) (hne : ∀ p ∈ L, p.2 ≠ [])
    (hQ : ∀ s' p (out : Array Value) (c : Nat) (L' : List (Addr × List Int)), (∀ b o, s.heap.get? b = some o → s'.heap.get? b = some o) → s'.gens = s.gens → s'.os = s.os → s.heap.objs.size ≤ p →
      s'.heap.get? p = some (seqObj "list" out c) → out.toList = L'.map (fun q => Value.ref q.1) → L'.Perm L → Q (.ref p) s') :
    wpAny (model P w) A (call (.builtin "sorted") [.ref a]) Q E s := by
  obtain ⟨o, ho, hex, hd⟩ := R.ob
  have hsz := rows_size R.rows
  have hfew : L.length ≤ 1200 := R.few
  refine Calls.call_function_entry kind_sorted plain_sorted entry_sorted (args_sorted1 _) ?_
  unfold Builtin.«sorted»
  refine wpAny_bind (m := checkCount "sorted" 1 1 _) (wpAny_pure ?_)
  refine wpAny_bind (collect_set (A := A.in1) hh ⟨o, ho, hex.1, hd⟩ R.fits (by unfold scanBound; omega) R.tab.ris R.led fun s1 vs k1 hz g1 o1 pm => ?_)
  have hes : es.toList.map (·.2) = L.map fun q => Value.ref q.1 := by
    rw [R.rows]
    unfold rowsOf
    rw [List.map_map] <;> rfl
  rw [hes] at pm
  have len : vs.length ≤ 1200 := by rw [pm.length_eq, List.length_map]; exact hfew
  refine wpAny_bind (wpAny_newList ?_ (by rw [sizeLine_eq]; omega))
  have hoL : (s1.heap.push (seqObj "list" vs.toArray 0)).get? s1.heap.objs.size = some (seqObj "list" vs.toArray 0) := Heap.get?_push_size _ rfl
  have tk : ∀ v ∈ vs, ∃ q ∈ L, v = Value.ref q.1 ∧ ∃ (o : Obj) (items : Array Value) (n : Nat), (s1.heap.push (seqObj "list" vs.toArray 0)).get? q.1 = some o ∧ o.cls = .type "tuple" ∧ o.data = .seq items n ∧ IntsAre items.toList q.2 := fun v hv => by
    obtain ⟨q, hq, e⟩ := List.mem_map.mp (pm.mem_iff.mp hv)
    obtain ⟨o', items, n, ho', hc', hd', hi'⟩ := isT_keep (R.tup q hq) fun b u e => Heap.get?_push_of_some (seqObj "list" vs.toArray 0) (k1 b u e)
    exact ⟨q, hq, e.symm, o', items, n, ho', hc', hd', ints_of_items hi'⟩
  have key : ∀ v, v ∈ vs → ∃ l, G.tupKeyC (s1.heap.push (seqObj "list" vs.toArray 0)) (fun _ => false) v = some l := fun v hv => by
    obtain ⟨q, _, rfl, o, items, n, ho, hc, hd, hi⟩ := tk v hv
    refine ⟨q.2.map Sum.inl, ?_⟩
    have e1 : G.isTupObj (s1.heap.push (seqObj "list" vs.toArray 0)) (.ref q.1) = true := by simp [G.isTupObj, ho, hc]
    unfold G.tupKeyC
    rw [if_pos e1]
    simp only [tupKey, ho, hd]
    exact shape_ints hi 0
  have firsts : ∀ us : List Value, (∀ v ∈ us, v ∈ vs) → ∃ fs, TupsOf (s1.heap.push (seqObj "list" vs.toArray 0)) (fun _ => false) us fs := by
    intro us
    induction us with
    | nil => exact fun _ => ⟨[], .nil⟩
    | cons u us ih =>
      intro hu
      obtain ⟨fs, r⟩ := ih fun v hv => hu v (List.mem_cons_of_mem _ hv)
      obtain ⟨q, hq, e, o, items, n, ho, hc, hd, hi⟩ := tk u (hu u List.mem_cons_self)
      have ne := hne q hq
      obtain ⟨f, hf, k, tk', ef⟩ : ∃ f, items[0]? = some f ∧ ∃ k t, f = Value.int k t := by
        cases hi' : items.toList with
        | nil =>
          rw [hi'] at hi
          generalize q.2 = z at hi ne
          cases hi
          exact absurd rfl ne
        | cons f r =>
          refine ⟨f, by rw [← Array.getElem?_toList, hi']; rfl, ?_⟩
          rw [hi'] at hi
          generalize q.2 = z at hi ne
          cases hi with
          | cons k t _ => exact ⟨_, _, rfl⟩
      exact ⟨f :: fs, .cons ⟨q.1, o, items, n, e, ho, hc, hd, hf, fun _ => ⟨k, tk', ef⟩, fun z => nomatch z⟩ r⟩
  obtain ⟨fs, ht⟩ := firsts vs fun v hv => hv
  refine wpAny_bind (wpAny_holding (wpAny_call_entry slot_list_sort ⟨_, hoL, rfl⟩ entry_list_sort (G.list_sort_tups (s := { s1 with heap := s1.heap.push (seqObj "list" vs.toArray 0) }) hoL ht key (by rw [sizeLine_eq]; omega) fun st' a1 a2 a3 => ⟨_, rfl, ?_⟩) (args_list_sort _)))
  obtain ⟨c, hc⟩ := sortedHeap_at (vs := vs) (out := (arrOf st').map (·.2)) hoL
  have po : ((arrOf st').map (·.2)).toList.Perm vs := by
    have h1 : (arrOf st').toList.Perm (vs.zip vs) := by
      have q := Array.perm_iff_toList_perm.mp a1
      rw [pairsOf_toList] at q
      exact q
    rw [Array.toList_map]
    have z := h1.map Prod.snd
    rw [List.map_snd_zip (Nat.le_refl _)] at z
    exact z
  obtain ⟨L', p2, e2⟩ := perm_lift (fun q : Addr × List Int => Value.ref q.1) (po.trans pm) L rfl
  refine wpAny_pure ⟨_, rfl, hQ _ s1.heap.objs.size ((arrOf st').map (·.2)) c L' (fun b u e => ?_) g1 o1 hz hc e2.symm p2⟩
  have q := k1 b u e
  have hlt := Heap.lt_size q
  show (sortedHeap (s1.heap.push (seqObj "list" vs.toArray 0)) s1.heap.objs.size vs ((arrOf st').map (·.2))).get? b = some u
  rw [sortedHeap_old (Nat.ne_of_lt hlt) (by rw [size_push']; exact Nat.lt_succ_of_lt hlt)]
  exact Heap.get?_push_of_some _ q
end
end NcSt

end
section
set_option Elab.async false
set_option linter.all false
set_option maxRecDepth 100000
set_option maxHeartbeats 4000000
namespace NcSt
open PySem PySem.Spec PyProof.Rows L2
/-- what is true of the heap of a set of tuples (the tuples themselves left aside) -/
def SetF (P : Program) (w : World) (a : Addr) (L : List (Addr × List Int)) : Heap → Prop := fun h => ∃ (es : Array (Int × Value)) (ep : Nat) (t : SetTable), (∃ o, h.get? a = some o ∧ o.ExactSet ∧ o.data = .set es ep t) ∧ es.toList = rowsOf P w L ∧
  TabG t (L.map fun p => thash P w p.2) ∧ (L.map (·.2)).Nodup ∧ t.plain = true ∧ (w.params.followText "set-order" = true ∨ t.led = true) ∧ L.length * 5 < t.mask * 3 ∧ L.length ≤ most
theorem SetG.f {P : Program} {w : World} {h : Heap} {a : Addr} {L : List (Addr × List Int)} {es : Array (Int × Value)} {ep : Nat} {t : SetTable} (R : SetG P w h a L es ep t) : SetF P w a L h := ⟨es, ep, t, R.ob, R.rows, R.tab, R.nd, R.plain, R.led, R.room, R.few⟩
theorem setF_new {P : Program} {w : World} {H : Hp} {h : Heap} {a : Addr} {L : List (Addr × List Int)} (R : SetF P w a L h) : ObjOk P w H h a (.ext (SetF P w a L)) := by
  have ⟨es, ep, t, ⟨o, ho, r⟩, q⟩ := R
  refine ⟨R, ⟨o, ho⟩, fun h1 h2 ⟨es', ep', t', ⟨o', ho', r'⟩, q'⟩ k => ?_⟩
  exact ⟨es', ep', t', ⟨o', k o' ho', r'⟩, q'⟩
section
variable {X : Cx}
def rSetG (K : PySem.W.Frag) (P : Program) (w : World) : List V → Hp → VK → Prop := fun xs H Q => ∃ (l : Addr) (ks : List (Addr × List Int)) (D : List (List Int)), xs = [V.ref l] ∧ SqL K H l (ks.map fun p => V.ref p.1) ∧ (∀ p ∈ ks, SqT K H p.1 (p.2.map V.int)) ∧ D.length ≤ most ∧ (∀ p ∈ ks, p.2 ∈ D) ∧
  ∀ a L, H a = none → (∀ p ∈ L, p ∈ ks) → (∀ p ∈ ks, p.2 ∈ L.map (·.2)) → (L.map (·.2)).Nodup → (∃ h, SetF P w a L h) → Q (.ref a) (upd H a (.ext (SetF P w a L)))
theorem cr_setG (hc : X.calm = true) (hu : X.A.units + 64 < cLine) : CallR X (.type "set") (rSetG X.K X.prog X.w) := by
  intro pins s σ H xs us Q I r h
  obtain ⟨l, ks, D, rfl, hl, hk, hD, hin, q⟩ := h
  rw [Vals.ref1 r]
  obtain ⟨its, rv, pl, hz⟩ := I.list hl
  refine set_tups (P := X.prog) (w := X.w) ks D hD hin (I.ok.hd hc) pl.isList (by simpa using refs_of_vals rv) (fun p hp => I.isT (hk p hp)) (by omega) fun h' tk L es ep t R g k => ?_
  refine ⟨.ref s.heap.objs.size, upd H s.heap.objs.size (.ext (SetF X.prog X.w s.heap.objs.size L)), I.laid (t' := tk) k (Nat.le_refl _) (setF_new R.f), rfl, q _ L (I.hok.fresh (Nat.le_refl _)) (fun p hp => ?_) (fun p hp => ?_) R.nd ⟨_, R.f⟩⟩
  · exact List.mem_of_mem_take (g.sub p hp)
  · exact g.all p (by rw [List.take_length]; exact hp)
def rSortedG (K : PySem.W.Frag) (P : Program) (w : World) : List V → Hp → VK → Prop := fun vs H Q => ∃ (a : Addr) (L : List (Addr × List Int)), vs = [V.ref a] ∧ H a = some (.ext (SetF P w a L)) ∧ (∀ p ∈ L, SqT K H p.1 (p.2.map V.int)) ∧ (∀ p ∈ L, p.2 ≠ []) ∧
  ∀ (L' : List (Addr × List Int)) (p : Addr), L'.Perm L → H p = none → Q (.ref p) (upd H p (.lst (L'.map fun q => V.ref q.1)))
theorem cr_sortedG (hc : X.calm = true) : CallR X (.builtin "sorted") (rSortedG X.K X.prog X.w) := by
  intro pins s σ H vs us Q I r h
  obtain ⟨a, L, rfl, ha, hk, hne, q⟩ := h
  obtain ⟨es, ep, t, h1, h2, h3, h4, h5, h6, h7, h8⟩ : SetF X.prog X.w a L s.heap := (I.hok a _ ha).1
  have R : SetG X.prog X.w s.heap a L es ep t := ⟨h1, h2, h3, h4, fun p hp => I.isT (hk p hp), h5, h6, h7, h8⟩
  have h8' : L.length ≤ 1200 := h8
  rw [Vals.ref1 r]
  refine sorted_g R (I.ok.hd hc) hne fun s' p out c L' k g o hp hg hout pm => ?_
  have hlen : (L'.map fun q => V.ref q.1).length ≤ sizeLine := by rw [List.length_map, sizeLine_eq, pm.length_eq]; omega
  have hn : H p = none := I.hok.fresh hp
  have hv : Vals (L'.map fun q => V.ref q.1) out.toList := by rw [hout]; exact vals_of_refs L'
  have J : Inv X pins σ (upd H p (.lst (L'.map fun q => V.ref q.1))) { s with heap := s'.heap, gens := s'.gens, drawn := s'.drawn, toks := s'.toks } :=
    I.call (ch := []) (Un.laid k hp hn) (I.hok.laid k hp ⟨hlen, out.toList, c, hv, hg⟩) (by rw [g]; exact I.bare) (fun _ z => nomatch z)
  have e : s' = { s with heap := s'.heap, gens := s'.gens, drawn := s'.drawn, toks := s'.toks } := by
    cases s'; cases s; cases o; rfl
  rw [e]
  exact ⟨.ref p, _, J, rfl, q L' p pm hn⟩
/-! ### sorted(set(a tuple of ints)) -/
def tSortSet (K : PySem.W.Frag) (ta : TE) : TE := fun σ H Q => ta σ H fun x H1 => ∃ (l : Addr) (ns : List Int), x = .ref l ∧ SqT K H1 l (ns.map V.int) ∧ ns.length < 64 ∧
  ∀ (p : Addr) (ns' : List Int), H1 p = none → ns'.Pairwise (· < ·) → (∀ k, k ∈ ns' ↔ k ∈ ns) → Q (.ref p) (upd H1 p (.lst (ns'.map V.int)))
theorem pe_sortSet {a : Expr} {ta : TE} {p p2 q pos : Pos} (hg : Gl X "sorted") (hm : X.mg "sorted" = none) (hg2 : Gl X "set") (hm2 : X.mg "set" = none) (ha : PE X a ta) (hc : X.calm = true)
    (na : starEach [a] X.env = (false, eval a X.env) :: starEach [] X.env := by rfl) : PE X (.Call (.Name "sorted" p) [.Call (.Name "set" p2) [a] [] q] [] pos) (tSortSet X.K ta) := by
  refine ⟨fun pins s σ H Q I h => Call_ (ld_blt I hg hm (show bootBuiltins "sorted" = some (.builtin "sorted") by decide +kernel) (callWith_builtin1 (args_cons ?_ rfl) rfl rfl))⟩
  refine Call_ (ld_blt I hg2 hm2 boot_set (callWith_type1 (args_cons (thn (ha.run pins s σ H _ I h) fun v s1 ⟨x, H1, I1, r1, q1⟩ => args_nil ?_) na) na rfl))
  obtain ⟨l, ns, rfl, hq, h64, q1⟩ := q1
  cases r1
  obtain ⟨its, rv, pl, hz⟩ := I1.tuple hq
  refine call_set_tupI ns (I1.ok.hd hc) pl (by simpa using rv.ints) (by unfold scanBound; omega) fun h' tk c R hc2 hk => args_nil ?_
  refine sorted_set (s := { s1 with heap := h', toks := tk }) R (I1.ok.hd hc) (by omega) fun s' p out cc ns' k g o hp hout hi hpw hmem hlen => ?_
  have I2 : Inv X pins σ H1 { s1 with heap := h', toks := tk } := I1.kept (t' := tk) fun b o e => hk b o e
  generalize ({ s1 with heap := h', toks := tk } : Shared) = s2 at I2 k g o hp
  have hl : (ns'.map V.int).length ≤ sizeLine := by rw [List.length_map, sizeLine_eq]; omega
  have hn : H1 p = none := I2.hok.fresh hp
  have J : Inv X pins σ (upd H1 p (.lst (ns'.map V.int))) { s2 with heap := s'.heap, gens := s'.gens, drawn := s'.drawn, toks := s'.toks } :=
    I2.call (ch := []) (Un.laid k hp hn) (I2.hok.laid k hp ⟨hl, out.toList, cc, vals_of_ints hi, hout⟩) (by rw [g]; exact I2.bare) (fun _ z => nomatch z)
  have e : s' = { s2 with heap := s'.heap, gens := s'.gens, drawn := s'.drawn, toks := s'.toks } := by
    cases s'; cases s2; cases o; rfl
  rw [e]
  exact ⟨.ref p, _, J, rfl, q1 p ns' hn hpw fun k => by rw [hmem k, decide_eq_true_eq]⟩
end
end NcSt
namespace NC
open PySem PySem.Spec PyProof.Rows L2 RZ
theorem tupsA_of {K : PySem.W.Frag} {Z : Hp} : ∀ {nss : List (List Int)} {vs : List V}, IsL K Z (nss.map tupI) vs → ∃ ks : List (Addr × List Int), vs = (ks.map fun p => V.ref p.1) ∧ ks.map (·.2) = nss ∧ ∀ p ∈ ks, SqT K Z p.1 (p.2.map V.int)
  | [], vs, h => ⟨[], h, rfl, fun _ h => nomatch h⟩
  | ns :: nss, vs, h => by
    obtain ⟨v, r, rfl, ⟨t, us, e, q, l2⟩, l⟩ := h
    obtain ⟨ks, e1, e2, e3⟩ := tupsA_of l
    refine ⟨(t, ns) :: ks, by rw [e1, e]; rfl, by rw [List.map_cons, e2], fun p hp => ?_⟩
    rcases List.mem_cons.mp hp with e | hp
    · subst e
      rw [← l2.ints]; exact q
    · exact e3 p hp
theorem isL_tupsA {K : PySem.W.Frag} {Z : Hp} : ∀ {ks : List (Addr × List Int)}, (∀ p ∈ ks, SqT K Z p.1 (p.2.map V.int)) → IsL K Z ((ks.map (·.2)).map tupI) (ks.map fun p => V.ref p.1)
  | [], _ => rfl
  | p :: ks, h => ⟨_, _, rfl, ⟨p.1, p.2.map V.int, rfl, h p List.mem_cons_self, IsL.of_ints⟩, isL_tupsA fun c hc => h c (List.mem_cons_of_mem _ hc)⟩
/-- the object is a set of these tuples -/
def SetM (P : Program) (w : World) (a : Addr) (o : MO) (kss : List (List Int)) : Prop := ∃ L, o = .setT L (NcSt.SetF P w a L) ∧ L.map (·.2) = kss
section
variable {X : Cx} {R : Rz}
def setTW (P : Program) (w : World) : WL := fun ps M Φ => match ps with
  | [p] => lsW p M fun xs => ∃ (nss D : List (List Int)), xs = nss.map tupI ∧ D.length ≤ 1200 ∧ (∀ ns ∈ nss, ns ∈ D) ∧ ∀ a o kss, M a = none → SetM P w a o kss → kss.Nodup → (∀ k, k ∈ kss ↔ k ∈ nss) → Φ (.ref a) (updM M a o)
  | _ => False
theorem cd_setT (hc : X.calm = true) (hu : X.A.units + 64 < cLine) : CallD X (.type "set") (setTW X.prog X.w) := by
  refine ⟨_, NcSt.cr_setG hc hu, fun Z M H ps vs Φ Q s a t k => ?_⟩
  match ps, t with
  | [p], t =>
    obtain ⟨v, e, b⟩ := isL_one a
    obtain ⟨xs, c, ws, ⟨nss, D, e2, hD, hin, q⟩, ex, hq, l⟩ := ls_of s b t
    rw [e2] at l
    obtain ⟨ks, e3, e4, e5⟩ := tupsA_of l
    refine ⟨c, ks, D, by rw [e, ex], by rw [← e3]; exact sqL_rd (Same.refl _) hq, fun p hp => seqT_same s.z (e5 p hp), hD, fun p hp => hin _ (by rw [← e4]; exact List.mem_map.mpr ⟨p, hp, rfl⟩), fun a L ha h1 h2 h3 ⟨h4, f4⟩ => ?_⟩
    obtain ⟨s2, r2⟩ := s.new (u := .setT L (NcSt.SetF X.prog X.w a L)) (o := .ext (NcSt.SetF X.prog X.w a L)) ha ⟨upd_same, ⟨h4, by
      have ⟨es, ep, t, ⟨o, ho, _, hd⟩, _⟩ := f4
      exact ⟨o, es, ep, t, f4, ho, hd⟩⟩, fun p hp => e5 p (h1 p hp)⟩
    refine k (.ref a) _ Z _ _ s2 r2 rfl (q a _ (L.map (·.2)) (s.mn ha) ⟨L, rfl, rfl⟩ h3 fun k => ?_)
    rw [← e4]
    constructor
    · intro hk
      obtain ⟨p, hp, rfl⟩ := List.mem_map.mp hk
      exact List.mem_map.mpr ⟨p, h1 p hp, rfl⟩
    · intro hk
      obtain ⟨p, hp, rfl⟩ := List.mem_map.mp hk
      exact h2 p hp
def sortSW (P : Program) (w : World) : WL := fun ps M Φ => match ps with
  | [.ref a] => ∃ o kss, M a = some o ∧ SetM P w a o kss ∧ (∀ k ∈ kss, k ≠ []) ∧ ∀ kss' : List (List Int), kss'.Perm kss → Φ (.lst (kss'.map tupI)) M
  | _ => False
theorem cd_sortedS (hc : X.calm = true) : CallD X (.builtin "sorted") (sortSW X.prog X.w) := by
  refine ⟨_, NcSt.cr_sortedG hc, fun Z M H ps vs Φ Q s a t k => ?_⟩
  match ps, t with
  | [.ref b], t =>
    obtain ⟨v, e, eb⟩ := isL_one a
    obtain ⟨o, kss, hM, ⟨L, eo, eL⟩, hne, q⟩ := t
    rw [eo] at hM
    obtain ⟨e1, _, e2⟩ := s.m b _ hM
    refine ⟨b, L, by rw [e, show v = .ref b from eb], e1, fun p hp => seqT_same s.z (e2 p hp), fun p hp => hne _ (by rw [← eL]; exact List.mem_map.mpr ⟨p, hp, rfl⟩), fun L' p hp hn => ?_⟩
    obtain ⟨s2, r2⟩ := s.frz (o := .lst (L'.map fun q => V.ref q.1)) hn
    refine k (.lst ((L'.map (·.2)).map tupI)) _ _ M _ s2 r2 ⟨p, _, rfl, .inl upd_same, isL_tupsA fun z hz => seqT_same r2.z (e2 z (hp.mem_iff.mp hz))⟩ (q _ ?_)
    rw [← eL]
    exact hp.map _
def sortSetW (p : P) (M : Mm) (Φ : P → Mm → Prop) : Prop := match p with
  | .tup xs => ∃ ns : List Int, xs = ns.map P.int ∧ ns.length < 64 ∧ ∀ ns' : List Int, ns'.Pairwise (· < ·) → (∀ k, k ∈ ns' ↔ k ∈ ns) → Φ (.lst (ns'.map P.int)) M
  | _ => False
def dSortSet (t : TD) : TD := fun ρ M Φ => t ρ M fun p M1 => sortSetW p M1 Φ
theorem de_sortSet {a : Expr} {t : TD} {p p2 q pos : Pos} (hc : X.calm = true) (hg : Gl X "sorted") (hm : X.mg "sorted" = none) (hg2 : Gl X "set") (hm2 : X.mg "set" = none) (ha : DE X R a t)
    (na : starEach [a] X.env = (false, eval a X.env) :: starEach [] X.env := by rfl) : DE X R (.Call (.Name "sorted" p) [.Call (.Name "set" p2) [a] [] q] [] pos) (dSortSet t) := by
  obtain ⟨g1, p1, k1⟩ := ha.ex
  refine de_of (NcSt.pe_sortSet hg hm hg2 hm2 p1 hc na) fun Z σ H M ρ Φ Q s en l t k => k1 Z σ H M ρ _ _ s en l t fun p v Z1 M1 H1 s1 r1 a1 q1 => ?_
  cases p with
  | tup xs =>
    obtain ⟨b, vs, ev, hq, l1⟩ := a1
    obtain ⟨ns, e, h64, q2⟩ := q1
    rw [e] at l1
    rw [l1.ints] at hq
    refine ⟨b, ns, ev, seqT_same s1.z hq, h64, fun p ns' hp h1 h2 => ?_⟩
    obtain ⟨s2, r2⟩ := s1.frz (o := .lst (ns'.map V.int)) hp
    exact k (.lst (ns'.map P.int)) _ _ M1 _ s2 (r1.trans r2) ⟨p, _, rfl, .inl upd_same, IsL.of_ints⟩ (q2 ns' h1 h2)
  | _ => exact q1.elim
end
end NC

end
section
set_option Elab.async false
set_option linter.all false
set_option maxRecDepth 100000
set_option maxHeartbeats 4000000
namespace NC
open PySem PySem.Spec PyProof.Rows L2 RZ
section
variable {X : Cx} {R : Rz}
/-! ### range(i, j, -1) -/
def itoa (hi : Int) (n : Nat) : List P := (List.range n).map fun i => P.int (hi + (i : Nat) * (-1))
def iRg3 (t : TDa) : TId := fun ρ M Φ => t ρ M fun ps M1 => match ps with
  | [.int i, .int j, .int k] => k = -1 ∧ (-(2 ^ 62) ≤ i ∧ i < 2 ^ 62 ∧ -(2 ^ 62) ≤ j ∧ j < 2 ^ 62) ∧ Φ (itoa i (i - j).toNat) M1
  | _ => False
theorem di_rg3 {tg a b c : Expr} {t : TDa} {p pos} (hg : Gl X "range") (hm : X.mg "range" = none) (ha : DA X R [a, b, c] t)
    (hs : starEach [a, b, c] X.env = (false, eval a X.env) :: starEach [b, c] X.env := by rfl) (hpl : (backTo pos (starEach [b, c] X.env)).any (·.1) = false := by rfl) : DI X R tg (.Call (.Name "range" p) [a, b, c] [] pos) (iRg3 t) := by
  obtain ⟨g1, p1, k1⟩ := ha.ex
  refine ⟨_, pi_range3 hg hm p1 hs hpl, fun Z σ H M ρ Φ Q s en l t k => k1 Z σ H M ρ _ _ s en l t fun ps vs Z1 M1 H1 s1 r1 a1 q1 => ?_⟩
  match ps, q1 with
  | [.int i, .int j, .int kk], q1 =>
    obtain ⟨ek, ⟨h1, h2, h3, h4⟩, q⟩ := q1
    obtain ⟨v, u, z, e, b1, b2, b3⟩ := isL_three a1
    have b1 : v = .int i := b1
    have b2 : u = .int j := b2
    have b3 : z = .int kk := b3
    subst ek
    refine ⟨i, j, -1, (i - j).toNat, by rw [e, b1, b2, b3], RgC.neg h1 h2 h3 h4, k _ _ Z1 M1 H1 s1 r1 ?_ q⟩
    exact walkP_fn walk_rangeC (fun Z i => rfl) (fun _ => True.intro)
/-! ### a text's start -/
def dCutS (t : TD) (tl th : TDo) : TD := fun ρ M Φ => t ρ M fun p M1 => tl ρ M1 fun lo M2 => th ρ M2 fun hi M3 => match p with
  | .str z => z.length ≤ sizeLine ∧ Φ (.str (Txt.slice z lo hi)) M3
  | _ => False
theorem de_cutS {e : Expr} {lo hi : Option Expr} {te : TD} {tl th : TDo} {p2 pos} (he : DE X R e te) (hl : DO X R lo tl) (hh : DO X R hi th) : DE X R (.Subscript e (.Slice lo hi none p2) pos) (dCutS te tl th) := by
  obtain ⟨g1, p1, k1⟩ := he.ex
  obtain ⟨g2, p2, k2⟩ := hl.ex
  obtain ⟨g3, p3, k3⟩ := hh.ex
  refine de_of (pe_slice C8.sl_txt p1 p2 p3) fun Z σ H M ρ Φ Q s en l t kk => k1 Z σ H M ρ _ _ s en l t fun p v Z1 M1 H1 s1 r1 a1 q1 => ?_
  refine k2 Z1 σ H1 M1 ρ _ _ s1 (en.mono r1.z) (l.next r1) q1 fun o1 Z2 M2 H2 s2 r2 q2 => ?_
  refine k3 Z2 σ H2 M2 ρ _ _ s2 (en.mono (r1.trans r2).z) (l.next (r1.trans r2)) q2 fun o2 Z3 M3 H3 s3 r3 q3 => ?_
  cases p <;> first | exact q3.elim | skip
  exact ⟨_, a1, q3.1, kk _ _ Z3 M3 H3 s3 ((r1.trans r2).trans r3) (show Is X.K Z3 (.str _) (.str _) from rfl) q3.2⟩
end
end NC

end
section
set_option Elab.async false
set_option linter.all false
set_option maxRecDepth 100000
set_option maxHeartbeats 4000000
namespace NC
open PySem PySem.Spec PyProof.Rows L2 RZ
/-! ### colourings that avoid, plain -/
/-- the greatest number of an answer -/
def Top1 (row : List Int) (n : Int) : Prop := n ∈ row ∧ ∀ x ∈ row, x ≤ n
def top1 (n : Int) (row : List Int) : Bool := row.any (fun x => decide (x = n)) && row.all fun x => decide (x ≤ n)
theorem top1_iff {n : Int} {row : List Int} : top1 n row = true ↔ Top1 row n := by
  unfold top1 Top1
  rw [Bool.and_eq_true, List.any_eq_true, List.all_eq_true]
  constructor
  · rintro ⟨⟨x, hx, e⟩, h⟩
    have e := of_decide_eq_true e
    subst e
    exact ⟨hx, fun y hy => of_decide_eq_true (h y hy)⟩
  · rintro ⟨h1, h2⟩
    exact ⟨⟨n, h1, decide_eq_true rfl⟩, fun y hy => decide_eq_true (h2 y hy)⟩
/-- the lists of one greatest number -/
def LotsAt (every : List (List Int)) (n : Int) (kss : List (List Int)) : Prop :=
  (∀ lot ∈ kss, lot.length ≤ 1000 ∧ ∃ row ∈ every, Top1 row n ∧ ∀ x, x ∈ lot ↔ x ∈ row ∧ x ≠ n) ∧ (∀ row ∈ every, Top1 row n → ∃ lot ∈ kss, ∀ x, x ∈ lot ↔ x ∈ row ∧ x ≠ n)
/-- what lots_by tells -/
def LotsOk (every : List (List Int)) (lots : List (List (List Int))) : Prop := lots.length = 17 ∧ ∀ (n : Nat) kss, lots[n]? = some kss → LotsAt every n kss
/-- whether the next number with a colour is in an answer in one colour -/
def clash (z c : Str) (row : List Int) : Bool := top1 ((z.length : Int) + 1) row && row.all fun x => decide (x = (z.length : Int) + 1) || decide (sg z x = c)
def goesOn (every : List (List Int)) (z c : Str) : Bool := !every.any (clash z c)
theorem goes_on_lots {every : List (List Int)} {kss : List (List Int)} {z c : Str} (h : LotsAt every ((z.length : Int) + 1) kss) : (kss.any fun lot => lot.all fun x => decide (sg z x = c)) = every.any (clash z c) := by
  obtain ⟨h1, h2⟩ := h
  rw [Bool.eq_iff_iff, List.any_eq_true, List.any_eq_true]
  constructor
  · rintro ⟨lot, hl, q⟩
    obtain ⟨_, row, hr, ht, hm⟩ := h1 lot hl
    refine ⟨row, hr, ?_⟩
    unfold clash
    rw [Bool.and_eq_true, top1_iff, List.all_eq_true]
    refine ⟨ht, fun x hx => ?_⟩
    rw [Bool.or_eq_true]
    by_cases e : x = (z.length : Int) + 1
    · exact .inl (decide_eq_true e)
    · exact .inr (List.all_eq_true.mp q x ((hm x).mpr ⟨hx, e⟩))
  · rintro ⟨row, hr, q⟩
    unfold clash at q
    rw [Bool.and_eq_true, top1_iff, List.all_eq_true] at q
    obtain ⟨ht, q⟩ := q
    obtain ⟨lot, hl, hm⟩ := h2 row hr ht
    refine ⟨lot, hl, List.all_eq_true.mpr fun x hx => ?_⟩
    obtain ⟨a1, a2⟩ := (hm x).mp hx
    have := q x a1
    rw [Bool.or_eq_true] at this
    rcases this with e | e
    · exact absurd (of_decide_eq_true e) a2
    · exact e
/-- a colour's sign -/
def cs (i : Nat) : Str := (toString (i : Int) : Str)
/-- the colourings that come of one -/
def kids (every : List (List Int)) (colours : Nat) (z : Str) : List Str := ((List.range colours).filter fun i => goesOn every z (cs i)).map fun i => z ++ cs i
/-- all with so many signs more -/
def ext (every : List (List Int)) (colours : Nat) : Nat → Str → List Str
  | 0, z => [z]
  | n + 1, z => (kids every colours z).flatMap (ext every colours n)
def rowsOfC (every : List (List Int)) (colours : Nat) : Nat → List Str
  | 0 => [Str.empty]
  | n + 1 => (rowsOfC every colours n).flatMap (kids every colours)
theorem flat_ext (every : List (List Int)) (colours n : Nat) : ∀ (rows : List Str), (rows.flatMap (kids every colours)).flatMap (ext every colours n) = rows.flatMap (ext every colours (n + 1))
  | [] => rfl
  | r :: rs => by
    rw [List.flatMap_cons, List.flatMap_append, flat_ext every colours n rs, List.flatMap_cons]; rfl
theorem rows_ext_gen (every : List (List Int)) (colours : Nat) : ∀ (n m : Nat), (rowsOfC every colours m).flatMap (ext every colours n) = rowsOfC every colours (m + n)
  | 0, m => by
    rw [Nat.add_zero]
    have : ∀ rows : List Str, rows.flatMap (ext every colours 0) = rows := fun rows => by
      induction rows with
      | nil => rfl
      | cons r rs ih => rw [List.flatMap_cons, ih]; rfl
    exact this _
  | n + 1, m => by
    rw [← flat_ext]
    have := rows_ext_gen every colours n (m + 1)
    rw [show m + 1 + n = m + (n + 1) by omega] at this
    exact this
theorem rows_ext (every : List (List Int)) (colours n : Nat) : rowsOfC every colours n = ext every colours n Str.empty := by
  have := rows_ext_gen every colours n 0
  rw [Nat.zero_add] at this
  rw [← this]
  show [Str.empty].flatMap _ = _
  rw [List.flatMap_cons, List.flatMap_nil, List.append_nil]
theorem cs_len {i : Nat} (h : i < 10) : (cs i).length = 1 := by
  have := digit_at (i := (i : Int)) (by omega) (by omega)
  unfold cs
  rw [str_length, this]; rfl
theorem app_len (x y : Str) : (x ++ y).length = x.length + y.length := by
  rw [str_length, str_length, str_length, app_cps, List.length_append]
theorem kids_len {every : List (List Int)} {colours : Nat} (hc : colours ≤ 10) {z y : Str} (h : y ∈ kids every colours z) : y.length = z.length + 1 := by
  obtain ⟨i, hi, rfl⟩ := List.mem_map.mp h
  have := List.mem_range.mp (List.mem_filter.mp hi).1
  rw [app_len, cs_len (by omega)]
theorem kids_few (every : List (List Int)) (colours : Nat) (z : Str) : (kids every colours z).length ≤ colours := by
  unfold kids
  rw [List.length_map]
  exact Nat.le_trans (List.length_filter_le _ _) (by rw [List.length_range]; exact Nat.le_refl _)
theorem rows_len {every : List (List Int)} {colours : Nat} (hc : colours ≤ 10) : ∀ (n : Nat), ∀ y ∈ rowsOfC every colours n, y.length = n
  | 0, y, h => by rw [List.mem_singleton.mp h]; rfl
  | n + 1, y, h => by
    obtain ⟨z, hz, h⟩ := List.mem_flatMap.mp h
    rw [kids_len hc h, rows_len hc n z hz]
theorem flat_few {α β : Type} {f : α → List β} {c : Nat} (h : ∀ x, (f x).length ≤ c) : ∀ rows : List α, (rows.flatMap f).length ≤ rows.length * c
  | [] => by simp
  | r :: rs => by
    rw [List.flatMap_cons, List.length_append, List.length_cons, Nat.succ_mul]
    have := flat_few h rs
    have := h r
    omega
theorem rows_few (every : List (List Int)) (colours : Nat) : ∀ n, (rowsOfC every colours n).length ≤ colours ^ n
  | 0 => Nat.le_refl _
  | n + 1 => by
    refine Nat.le_trans (flat_few (kids_few every colours) _) ?_
    rw [Nat.pow_succ]
    exact Nat.mul_le_mul_right _ (rows_few every colours n)
/-- the first colouring, if there is one -/
def firstC (every : List (List Int)) (colours many : Nat) : Option Str := (rowsOfC every colours many).head?
def optS : Option Str → P
  | none => .non
  | some z => .str z
/-- the colourings that a stack still leads to -/
def ahead (every : List (List Int)) (colours many : Nat) (line : List Str) : List Str := line.reverse.flatMap fun z => ext every colours (many - z.length) z
/-- steps that are left at most -/
def work : Nat → Nat
  | 0 => 1
  | n + 1 => 1 + 11 * work n
def steps (many : Nat) (line : List Str) : Nat := (line.map fun z => work (many - z.length)).sum
theorem ahead_pop {every : List (List Int)} {colours many : Nat} {line : List Str} {z : Str} (h : z.length < many) : ahead every colours many (line ++ [z]) = ahead every colours many (line ++ (kids every colours z).reverse) ∨ ¬ colours ≤ 10 := by
  by_cases hc : colours ≤ 10
  · refine .inl ?_
    unfold ahead
    rw [List.reverse_append, List.reverse_append, List.reverse_reverse, List.flatMap_append, List.flatMap_append]
    congr 1
    show [z].flatMap _ = _
    rw [List.flatMap_cons, List.flatMap_nil, List.append_nil]
    obtain ⟨d, hd⟩ : ∃ d, many - z.length = d + 1 := ⟨many - z.length - 1, by omega⟩
    rw [hd]
    show (kids every colours z).flatMap (ext every colours d) = _
    have : ∀ ys : List Str, (∀ y ∈ ys, y.length = z.length + 1) → ys.flatMap (ext every colours d) = ys.flatMap fun y => ext every colours (many - y.length) y := fun ys => by
      induction ys with
      | nil => intro _; rfl
      | cons y ys ih =>
        intro hy
        rw [List.flatMap_cons, List.flatMap_cons, ih fun x hx => hy x (List.mem_cons_of_mem _ hx), hy y List.mem_cons_self, show many - (z.length + 1) = d by omega]
    exact this _ fun y hy => kids_len hc hy
  · exact .inr hc
theorem ahead_done {every : List (List Int)} {colours many : Nat} {line : List Str} {z : Str} (h : z.length = many) : (ahead every colours many (line ++ [z])).head? = some z := by
  unfold ahead
  rw [List.reverse_append, List.flatMap_append]
  show ([z].flatMap _ ++ _).head? = _
  rw [List.flatMap_cons, h, Nat.sub_self]; rfl
theorem steps_app (many : Nat) (a b : List Str) : steps many (a ++ b) = steps many a + steps many b := by
  unfold steps
  rw [List.map_append, List.sum_append]
theorem work_pos : ∀ n, 0 < work n
  | 0 => Nat.one_pos
  | n + 1 => by unfold work; omega
theorem steps_kids {every : List (List Int)} {colours many : Nat} {z : Str} (hc : colours ≤ 10) (h : z.length < many) : steps many (kids every colours z).reverse < work (many - z.length) := by
  obtain ⟨d, hd⟩ : ∃ d, many - z.length = d + 1 := ⟨many - z.length - 1, by omega⟩
  have key : ∀ ys : List Str, (∀ y ∈ ys, y.length = z.length + 1) → steps many ys = ys.length * work d := fun ys => by
    induction ys with
    | nil => intro _; show 0 = 0 * _; rw [Nat.zero_mul]
    | cons y ys ih =>
      intro hy
      have := ih fun x hx => hy x (List.mem_cons_of_mem _ hx)
      have e : steps many (y :: ys) = work (many - y.length) + steps many ys := rfl
      rw [e, this, hy y List.mem_cons_self, show many - (z.length + 1) = d by omega, List.length_cons, Nat.succ_mul, Nat.add_comm]
  rw [key _ fun y hy => kids_len hc (List.mem_reverse.mp hy), List.length_reverse, hd]
  have h1 := kids_few every colours z
  have h2 : (kids every colours z).length * work d ≤ 10 * work d := Nat.mul_le_mul_right _ (by omega)
  have := work_pos d
  show _ < 1 + 11 * work d
  omega
/-- a stack's places -/
def Stack (line : List Str) : Prop := ∀ (i : Nat) z, line[i]? = some z → i ≤ 9 * z.length
theorem stack_one : Stack [Str.empty] := fun i z h => by
  cases i with
  | zero => omega
  | succ i => simp at h
theorem stack_pop {every : List (List Int)} {colours : Nat} {line : List Str} {z : Str} (hc : colours ≤ 10) (h : Stack (line ++ [z])) : Stack (line ++ (kids every colours z).reverse) := fun i y hy => by
  have hl : line.length ≤ 9 * z.length := h line.length z (by rw [List.getElem?_append_right (Nat.le_refl _), Nat.sub_self]; rfl)
  by_cases c : i < line.length
  · rw [List.getElem?_append_left c] at hy
    exact h i y (by rw [List.getElem?_append_left c]; exact hy)
  · rw [List.getElem?_append_right (by omega)] at hy
    have h1 := kids_len hc (List.mem_reverse.mp (List.mem_of_getElem? hy))
    have h2 := (List.getElem?_eq_some_iff.mp hy).1
    rw [List.length_reverse] at h2
    have h3 := kids_few every colours z
    omega
end NC
namespace NC
open PySem PySem.Spec PyProof.Rows L2 RZ
/-! ### lots, plain -/
def lotP (kss : List (List Int)) : P := .lst (kss.map tupI)
def r15 : List Int := (List.range 15).map fun i : Nat => (i : Int) + 1
/-- ascending lists of at most three numbers up to fifteen -/
def asc3 : List (List Int) := [[]] ++ r15.map (fun a => [a]) ++ (r15.flatMap fun a => (r15.filter (a < ·)).map fun b => [a, b]) ++ (r15.flatMap fun a => (r15.filter (a < ·)).flatMap fun b => (r15.filter (b < ·)).map fun c => [a, b, c])
theorem asc3_len : asc3.length = 576 := by decide +kernel
theorem mem_r15 {x : Int} (h1 : 1 ≤ x) (h2 : x ≤ 15) : x ∈ r15 := by
  refine List.mem_map.mpr ⟨(x - 1).toNat, List.mem_range.mpr (by omega), by omega⟩
theorem mem_asc3 {l : List Int} (h1 : l.Pairwise (· < ·)) (h2 : l.length ≤ 3) (h3 : ∀ x ∈ l, 1 ≤ x ∧ x ≤ 15) : l ∈ asc3 := by
  unfold asc3
  have r : ∀ x ∈ l, x ∈ r15 := fun x hx => mem_r15 (h3 x hx).1 (h3 x hx).2
  match l, h1, h2, r with
  | [], _, _, _ => exact List.mem_append_left _ (List.mem_append_left _ (List.mem_append_left _ List.mem_cons_self))
  | [a], _, _, r => exact List.mem_append_left _ (List.mem_append_left _ (List.mem_append_right _ (List.mem_map.mpr ⟨a, r a List.mem_cons_self, rfl⟩)))
  | [a, b], h1, _, r =>
    have ab : a < b := (List.pairwise_cons.mp h1).1 b List.mem_cons_self
    exact List.mem_append_left _ (List.mem_append_right _ (List.mem_flatMap.mpr ⟨a, r a List.mem_cons_self, List.mem_map.mpr ⟨b, List.mem_filter.mpr ⟨r b (by simp), decide_eq_true ab⟩, rfl⟩⟩))
  | [a, b, c], h1, _, r =>
    obtain ⟨q1, q2⟩ := List.pairwise_cons.mp h1
    have ab : a < b := q1 b List.mem_cons_self
    have bc : b < c := (List.pairwise_cons.mp q2).1 c List.mem_cons_self
    exact List.mem_append_right _ (List.mem_flatMap.mpr ⟨a, r a List.mem_cons_self, List.mem_flatMap.mpr ⟨b, List.mem_filter.mpr ⟨r b (by simp), decide_eq_true ab⟩, List.mem_map.mpr ⟨c, List.mem_filter.mpr ⟨r c (by simp), decide_eq_true bc⟩, rfl⟩⟩⟩)
  | a :: b :: c :: d :: l, _, h2, _ => simp at h2
/-- an ascending list ends with its greatest number -/
theorem asc_last {n : Int} : ∀ {l : List Int}, l.Pairwise (· < ·) → n ∈ l → (∀ x ∈ l, x ≤ n) → l = l.dropLast ++ [n] ∧ ∀ x, x ∈ l.dropLast ↔ x ∈ l ∧ x ≠ n
  | [], _, h, _ => by cases h
  | [a], _, h, _ => by
    have e : n = a := List.mem_singleton.mp h
    subst e
    refine ⟨rfl, fun x => Iff.intro (fun h => nomatch h) (fun h => absurd (List.mem_singleton.mp h.1) h.2)⟩
  | a :: b :: l, hp, hn, hm => by
    obtain ⟨q1, q2⟩ := List.pairwise_cons.mp hp
    have ab := q1 b List.mem_cons_self
    have nb : b ≤ n := hm b (by simp)
    have hn' : n ∈ b :: l := by
      rcases List.mem_cons.mp hn with e | e
      · omega
      · exact e
    obtain ⟨e1, e2⟩ := asc_last q2 hn' fun x hx => hm x (List.mem_cons_of_mem _ hx)
    refine ⟨by rw [List.dropLast_cons_of_ne_nil (by simp), List.cons_append, ← e1], fun x => ?_⟩
    rw [List.dropLast_cons_of_ne_nil (by simp), List.mem_cons, e2 x, List.mem_cons (a := x) (b := a)]
    constructor
    · rintro (e | ⟨e, f⟩)
      · subst e; exact ⟨.inl rfl, by omega⟩
      · exact ⟨.inr e, f⟩
    · rintro ⟨e | e, f⟩
      · exact .inl e
      · exact .inr ⟨e, f⟩
theorem few_asc : ∀ {l r : List Int}, l.Pairwise (· < ·) → (∀ x ∈ l, x ∈ r) → l.length ≤ r.length
  | [], _, _, _ => Nat.zero_le _
  | a :: l, r, h, hs => by
    obtain ⟨q1, q2⟩ := List.pairwise_cons.mp h
    have ha : a ∈ r := hs a List.mem_cons_self
    have ih := few_asc (r := r.erase a) q2 fun y hy => (List.mem_erase_of_ne (by have := q1 y hy; omega)).2 (hs y (List.mem_cons_of_mem _ hy))
    have e := List.length_erase_of_mem ha
    have hp : 0 < r.length := List.length_pos_of_mem ha
    rw [List.length_cons]
    omega
/-- a list of the numbers of a row, each once, ascending -/
def AscOf (k row : List Int) : Prop := k.Pairwise (· < ·) ∧ ∀ x, x ∈ k ↔ x ∈ row
theorem asc_in {n : Int} {k row : List Int} (h : AscOf k row) (ht : Top1 row n) (h1 : row.length ≤ 4) (h2 : ∀ x ∈ row, 1 ≤ x ∧ x ≤ 16) : k ∈ asc3.map (· ++ [n]) := by
  obtain ⟨e1, e2⟩ := asc_last h.1 ((h.2 n).mpr ht.1) fun x hx => ht.2 x ((h.2 x).mp hx)
  refine List.mem_map.mpr ⟨k.dropLast, mem_asc3 ?_ ?_ fun x hx => ?_, e1.symm⟩
  · exact List.Pairwise.sublist (List.dropLast_sublist k) h.1
  · have := few_asc h.1 fun x hx => (h.2 x).mp hx
    rw [List.length_dropLast]
    omega
  · obtain ⟨a1, a2⟩ := (e2 x).mp hx
    have b1 := h2 x ((h.2 x).mp a1)
    have b2 := ht.2 x ((h.2 x).mp a1)
    have b3 := h2 n ht.1
    omega
end NC
namespace NC
open PySem PySem.Spec PyProof.Rows L2 RZ
abbrev sOk (z : Str) : Prop := PyData.strOk z = true
theorem sOk_iff {z : Str} : sOk z ↔ ∀ c ∈ z.cps.toList, c < 0x110000 := by
  unfold sOk PyData.strOk
  rw [← Array.all_toList, List.all_eq_true]
  exact ⟨fun h c hc => of_decide_eq_true (h c hc), fun h c hc => decide_eq_true (h c hc)⟩
theorem sOk_app {x y : Str} (hx : sOk x) (hy : sOk y) : sOk (x ++ y) := by
  rw [sOk_iff] at *
  intro c hc
  rw [app_cps] at hc
  rcases List.mem_append.mp hc with h | h
  · exact hx c h
  · exact hy c h
theorem sOk_cs {i : Nat} (h : i < 10) : sOk (cs i) := by
  rw [sOk_iff]
  intro c hc
  unfold cs at hc
  rw [digit_at (by omega) (by omega)] at hc
  rw [List.mem_singleton.mp hc]
  omega
theorem sOk_one {c : Nat} (h : c < 0x110000) : sOk ⟨#[c]⟩ := by
  rw [sOk_iff]
  intro x hx
  have hx : x ∈ [c] := hx
  rw [List.mem_singleton.mp hx]
  exact h
theorem sOk_kids {every : List (List Int)} {colours : Nat} (hc : colours ≤ 10) {z y : Str} (hz : sOk z) (h : y ∈ kids every colours z) : sOk y := by
  obtain ⟨i, hi, rfl⟩ := List.mem_map.mp h
  have := List.mem_range.mp (List.mem_filter.mp hi).1
  exact sOk_app hz (sOk_cs (by omega))
theorem sOk_rows {every : List (List Int)} {colours : Nat} (hc : colours ≤ 10) : ∀ (n : Nat), ∀ y ∈ rowsOfC every colours n, sOk y
  | 0, y, h => by rw [List.mem_singleton.mp h]; exact sOk_iff.mpr fun c hc => absurd hc List.not_mem_nil
  | n + 1, y, h => by
    obtain ⟨z, hz, h⟩ := List.mem_flatMap.mp h
    exact sOk_kids hc (sOk_rows hc n z hz) h
theorem ok_sP {z : Str} (h : sOk z) : okP (.str z) = true := by
  unfold okP
  rw [show fitP (.str z) = true from h]
  rfl
theorem peq_str (x y : Str) : peq (.str x) (.str y) = decide (x = y) := by simp [peq]
end NC
namespace NC
open PySem PySem.Spec PyProof.Rows L2 RZ
set_option exponentiation.threshold 5000
theorem log_small {n : Nat} (h : n < 1000) : n.log2 < 1920 := by
  by_cases q : n = 0
  · subst q; decide
  · exact (Nat.log2_lt q).mpr (Nat.lt_of_lt_of_le h (Nat.le_trans (show 1000 ≤ 2 ^ 10 by decide) (Nat.pow_le_pow_right (by decide) (by decide))))
end NC
namespace NC
open PySem PySem.Spec PyProof.Rows L2 RZ
/-- the least number of signs that no colouring has -/
def farC (every : List (List Int)) (colours : Nat) : Option Nat := (List.range' 1 16).find? fun m => (firstC every colours m).isNone
def optN : Option Nat → P
  | none => .non
  | some n => .int n
theorem ans_rows {L : List (List Int)} {n : Nat} {b : Bool} (so : SysOk L) (h4 : ¬ 4 < cols L) (hn : n ≤ 16) : ∀ row ∈ ansU L n b, 1 ≤ row.length ∧ row.length ≤ 4 ∧ ∀ x ∈ row, 1 ≤ x ∧ x ≤ 16 := fun row hr => by
  obtain ⟨a1, a2⟩ := ansU_mem hr
  have := so.c1
  exact ⟨by omega, by omega, fun x hx => by have := a2 x hx; omega⟩
theorem ans_few {L : List (List Int)} {n : Nat} (h4 : ¬ 4 < cols L) (hn : n ≤ 16) : n ^ cols L ≤ 100000 :=
  Nat.le_trans (Nat.pow_le_pow_left hn _) (Nat.le_trans (Nat.pow_le_pow_right (by decide) (show cols L ≤ 4 by omega)) (by decide))
end NC
namespace NC
open PySem PySem.Spec PyProof.Rows L2 RZ
theorem far_at {every : List (List Int)} {colours n : Nat} (hn : n < 16) (h : ∀ m, 1 ≤ m → m ≤ n → (firstC every colours m).isNone = false) (q : (firstC every colours (n + 1)).isNone = true) : farC every colours = some (n + 1) := by
  have e : List.range' 1 16 = List.range' 1 n ++ (n + 1) :: List.range' (n + 2) (15 - n) := by
    have e1 : List.range' 1 16 = List.range' 1 n ++ List.range' (1 + n) (16 - n) := by
      rw [List.range'_append_1, show n + (16 - n) = 16 by omega]
    rw [e1, show 16 - n = (15 - n) + 1 by omega, List.range'_succ, Nat.add_comm 1 n]
  have no : (List.range' 1 n).find? (fun m => (firstC every colours m).isNone) = none := by
    rw [List.find?_eq_none]
    intro m hm
    obtain ⟨h1, h2⟩ := List.mem_range'_1.mp hm
    rw [h m h1 (by omega)]
    decide
  unfold farC
  rw [e, List.find?_append, no, List.find?_cons_of_pos (p := fun m => (firstC every colours m).isNone) q]; rfl
end NC
namespace NC
open PySem PySem.Spec PyProof.Rows L2 RZ
/-! ### the law's way and the program's -/
theorem mem_dedup {α : Type} [DecidableEq α] (j : α) : ∀ (ks acc : List α), j ∈ dedup acc ks ↔ j ∈ acc ∨ j ∈ ks
  | [], acc => by simp [dedup]
  | k :: r, acc => by
    unfold dedup
    by_cases h : (acc.any fun j => decide (k = j)) = true
    · rw [if_pos h, mem_dedup j r acc, List.mem_cons]
      obtain ⟨y, hy, e⟩ := List.any_eq_true.mp h
      have e := of_decide_eq_true e
      constructor
      · rintro (q | q)
        · exact .inl q
        · exact .inr (.inr q)
      · rintro (q | q | q)
        · exact .inl q
        · rw [q, e]; exact .inl hy
        · exact .inr q
    · rw [if_neg h, mem_dedup j r _, List.mem_append, List.mem_singleton, List.mem_cons, or_assoc]
theorem dedup_same {α : Type} [DecidableEq α] {a : α} : ∀ {l : List α}, (∀ x ∈ l, x = a) → dedup [a] l = [a]
  | [], _ => rfl
  | x :: l, h => by
    have e := h x List.mem_cons_self
    unfold dedup
    rw [if_pos (by rw [e]; simp)]
    exact dedup_same fun y hy => h y (List.mem_cons_of_mem _ hy)
theorem dedup_one {α : Type} [DecidableEq α] {l : List α} {a : α} (ha : a ∈ l) : (dedup [] l).length = 1 ↔ ∀ x ∈ l, x = a := by
  constructor
  · intro h
    obtain ⟨b, hb⟩ : ∃ b, dedup [] l = [b] := List.length_eq_one_iff.mp h
    have all : ∀ x ∈ l, x = b := fun x hx => by
      have := (mem_dedup x l []).mpr (.inr hx)
      rw [hb] at this
      exact List.mem_singleton.mp this
    intro x hx
    rw [all x hx, all a ha]
  · intro h
    cases l with
    | nil => cases ha
    | cons x l =>
      have e : dedup [] (x :: l) = dedup [x] l := rfl
      rw [e, dedup_same (a := x) fun y hy => by rw [h y (List.mem_cons_of_mem _ hy), h x List.mem_cons_self]]
      rfl
theorem sg_left {z c : Str} {x : Int} (h1 : 1 ≤ x) (h2 : x ≤ (z.length : Int)) : sg (z ++ c) x = sg z x := by
  unfold sg
  rw [app_cps, List.getD_eq_getElem?_getD, List.getD_eq_getElem?_getD, List.getElem?_append_left (by rw [← str_length]; omega)]
theorem sg_right {z c : Str} (h : c.length = 1) : sg (z ++ c) ((z.length : Int) + 1) = c := by
  obtain ⟨⟨l⟩⟩ := c
  have hl : l.length = 1 := by rw [str_length] at h; exact h
  obtain ⟨a, rfl⟩ := List.length_eq_one_iff.mp hl
  unfold sg
  rw [app_cps, List.getD_eq_getElem?_getD, List.getElem?_append_right (by rw [← str_length]; omega), ← str_length, show ((z.length : Int) + 1 - 1).toNat - z.length = 0 by omega]
  rfl
theorem mono_clash {z c : Str} {row : List Int} (hc : c.length = 1) (hp : ∀ x ∈ row, 1 ≤ x) (ht : Top1 row ((z.length : Int) + 1)) : mono (z ++ c) row = clash z c row := by
  have hl : (((z ++ c).length : Nat) : Int) = (z.length : Int) + 1 := by rw [app_len, hc]; omega
  unfold mono clash
  rw [top1_iff.mpr ht, Bool.true_and, hl, List.all_eq_true.mpr fun x hx => decide_eq_true (ht.2 x hx), Bool.true_and, Bool.eq_iff_iff, decide_eq_true_eq,
    dedup_one (List.mem_map.mpr ⟨_, ht.1, sg_right hc⟩), List.all_eq_true]
  constructor
  · intro h x hx
    rw [Bool.or_eq_true]
    by_cases e : x = (z.length : Int) + 1
    · exact .inl (decide_eq_true e)
    · have := ht.2 x hx
      exact .inr (decide_eq_true (by rw [← sg_left (c := c) (hp x hx) (by omega)]; exact h _ (List.mem_map.mpr ⟨x, hx, rfl⟩)))
  · intro h y hy
    obtain ⟨x, hx, rfl⟩ := List.mem_map.mp hy
    have := h x hx
    rw [Bool.or_eq_true] at this
    rcases this with e | e
    · rw [of_decide_eq_true e, sg_right hc]
    · by_cases e2 : x = (z.length : Int) + 1
      · rw [e2, sg_right hc]
      · have := ht.2 x hx
        rw [sg_left (hp x hx) (by omega)]
        exact of_decide_eq_true e
theorem goes_one {every : List (List Int)} {z c : Str} (hc : c.length = 1) (hp : ∀ row ∈ every, ∀ x ∈ row, 1 ≤ x) : (oneCol (every.filter (top1 ((z.length : Int) + 1))) (z ++ c)).isNone = goesOn every z c := by
  unfold oneCol goesOn
  rw [Bool.eq_iff_iff, Option.isNone_iff_eq_none, List.find?_eq_none, Bool.not_eq_true', List.any_eq_false]
  constructor
  · intro h row hr q
    have ht : top1 ((z.length : Int) + 1) row = true := by unfold clash at q; exact (Bool.and_eq_true_iff.mp q).1
    refine h row (List.mem_filter.mpr ⟨hr, ht⟩) ?_
    rw [mono_clash hc (hp row hr) (top1_iff.mp ht)]
    exact q
  · intro h row hr q
    obtain ⟨h1, h2⟩ := List.mem_filter.mp hr
    rw [mono_clash hc (hp row h1) (top1_iff.mp h2)] at q
    exact h row h1 q
end NC

end
section
set_option Elab.async false
set_option linter.all false
set_option maxRecDepth 100000
set_option maxHeartbeats 4000000
namespace NC
open PySem PySem.Spec PyProof.Rows L2 RZ
/-! ### answers up to one number and another -/
theorem growRows_all (most : Nat) : ∀ (c : Nat) (row : List Int), row.length = c → (∀ x ∈ row, 1 ≤ x ∧ x ≤ (most : Int)) → row ∈ growRows most c
  | 0, row, hl, _ => by rw [List.eq_nil_of_length_eq_zero hl]; exact List.mem_cons_self
  | c + 1, row, hl, h => by
    have hne : row ≠ [] := fun e => by rw [e] at hl; cases hl
    have e := List.dropLast_concat_getLast hne
    refine List.mem_flatMap.mpr ⟨row.dropLast, growRows_all most c _ (by rw [List.length_dropLast, hl]; rfl) fun x hx => h x ((List.dropLast_sublist row).subset hx), ?_⟩
    have hlast := h _ (List.getLast_mem hne)
    refine List.mem_map.mpr ⟨(row.getLast hne - 1).toNat, List.mem_range.mpr (by omega), ?_⟩
    rw [show (1 : Int) + ((row.getLast hne - 1).toNat : Int) = row.getLast hne by omega]
    exact e
theorem ansU_iff {L : List (List Int)} {most : Nat} {u : Bool} {row : List Int} : row ∈ ansU L most u ↔ row.length = cols L ∧ (∀ x ∈ row, 1 ≤ x ∧ x ≤ (most : Int)) ∧ nought L row = true ∧ (!u || distinct row) = true := by
  constructor
  · intro h
    obtain ⟨h1, h2⟩ := List.mem_filter.mp h
    obtain ⟨h3, h4⟩ := List.mem_filter.mp h1
    obtain ⟨a, b⟩ := growRows_mem most _ row h3
    exact ⟨a, b, h4, h2⟩
  · rintro ⟨a, b, c, d⟩
    exact List.mem_filter.mpr ⟨List.mem_filter.mpr ⟨growRows_all most _ row a b, c⟩, d⟩
/-- two lists of answers that have the same ones up to a number -/
def SameTo (n : Nat) (e1 e2 : List (List Int)) : Prop := ∀ row, (∀ x ∈ row, x ≤ (n : Int)) → (row ∈ e1 ↔ row ∈ e2)
theorem ansU_to {L : List (List Int)} {n m1 m2 : Nat} {u : Bool} (h1 : n ≤ m1) (h2 : n ≤ m2) : SameTo n (ansU L m1 u) (ansU L m2 u) := fun row hr => by
  rw [ansU_iff, ansU_iff]
  constructor
  · rintro ⟨a, b, c⟩
    exact ⟨a, fun x hx => ⟨(b x hx).1, by have := hr x hx; omega⟩, c⟩
  · rintro ⟨a, b, c⟩
    exact ⟨a, fun x hx => ⟨(b x hx).1, by have := hr x hx; omega⟩, c⟩
theorem SameTo.mono {n m : Nat} {e1 e2 : List (List Int)} (h : SameTo n e1 e2) (hm : m ≤ n) : SameTo m e1 e2 := fun row hr => h row fun x hx => by have := hr x hx; omega
theorem goesOn_to {n : Nat} {e1 e2 : List (List Int)} (h : SameTo n e1 e2) {z c : Str} (hz : z.length < n) : goesOn e1 z c = goesOn e2 z c := by
  have key : ∀ {a b : List (List Int)}, SameTo n a b → a.any (clash z c) = true → b.any (clash z c) = true := fun {a b} s q => by
    obtain ⟨row, hr, hc⟩ := List.any_eq_true.mp q
    have ht : Top1 row ((z.length : Int) + 1) := by unfold clash at hc; exact top1_iff.mp (Bool.and_eq_true_iff.mp hc).1
    exact List.any_eq_true.mpr ⟨row, (s row fun x hx => by have := ht.2 x hx; omega).mp hr, hc⟩
  unfold goesOn
  congr 1
  rw [Bool.eq_iff_iff]
  exact ⟨key h, key fun row hr => (h row hr).symm⟩
theorem kids_to {n : Nat} {e1 e2 : List (List Int)} (h : SameTo n e1 e2) {colours : Nat} {z : Str} (hz : z.length < n) : kids e1 colours z = kids e2 colours z := by
  unfold kids
  congr 1
  exact List.filter_congr fun i _ => goesOn_to h hz
theorem rows_to {n : Nat} {e1 e2 : List (List Int)} {colours : Nat} (hc : colours ≤ 10) (h : SameTo n e1 e2) : ∀ m, m ≤ n → rowsOfC e1 colours m = rowsOfC e2 colours m
  | 0, _ => rfl
  | m + 1, hm => by
    show (rowsOfC e1 colours m).flatMap _ = (rowsOfC e2 colours m).flatMap _
    rw [rows_to hc h m (by omega)]
    have : ∀ rows : List Str, (∀ z ∈ rows, z.length = m) → rows.flatMap (kids e1 colours) = rows.flatMap (kids e2 colours) := fun rows => by
      induction rows with
      | nil => intro _; rfl
      | cons z rows ih =>
        intro hz
        rw [List.flatMap_cons, List.flatMap_cons, ih fun y hy => hz y (List.mem_cons_of_mem _ hy), kids_to h (by rw [hz z List.mem_cons_self]; omega)]
    exact this _ (rows_len hc m)
/-- no answer is in one colour -/
theorem rows_avoid {every : List (List Int)} {colours : Nat} (hc : colours ≤ 10) (hp : ∀ row ∈ every, row ≠ [] ∧ ∀ x ∈ row, 1 ≤ x) : ∀ (n : Nat), ∀ z ∈ rowsOfC every colours n, ∀ row ∈ every, mono z row = false
  | 0, z, hz, row, hr => by
    obtain rfl := List.mem_singleton.mp hz
    obtain ⟨hne, h1⟩ := hp row hr
    cases row with
    | nil => exact absurd rfl hne
    | cons x r =>
      unfold mono
      rw [List.all_cons, decide_eq_false (show ¬ x ≤ ((Str.empty.length : Nat) : Int) by have := h1 x List.mem_cons_self; show ¬ x ≤ 0; omega), Bool.false_and, Bool.false_and]
  | n + 1, y, hy, row, hr => by
    obtain ⟨z, hz, hk⟩ := List.mem_flatMap.mp hy
    obtain ⟨i, hi, rfl⟩ := List.mem_map.mp hk
    obtain ⟨hi, hg⟩ := List.mem_filter.mp hi
    have hi := List.mem_range.mp hi
    have hl := cs_len (i := i) (by omega)
    obtain ⟨hne, h1⟩ := hp row hr
    cases q : mono (z ++ cs i) row with
    | false => rfl
    | true =>
      exfalso
      have hall : ∀ x ∈ row, x ≤ (z.length : Int) + 1 := fun x hx => by
        unfold mono at q
        have := of_decide_eq_true (List.all_eq_true.mp (Bool.and_eq_true_iff.mp q).1 x hx)
        rw [app_len, hl] at this
        omega
      by_cases ht : ((z.length : Int) + 1) ∈ row
      · rw [mono_clash hl h1 ⟨ht, hall⟩] at q
        unfold goesOn at hg
        rw [List.any_eq_true.mpr ⟨row, hr, q⟩] at hg
        cases hg
      · have hle : ∀ x ∈ row, x ≤ (z.length : Int) := fun x hx => by
          have h2 := hall x hx
          have h3 : x ≠ (z.length : Int) + 1 := fun e => ht (by rw [← e]; exact hx)
          omega
        have e : mono (z ++ cs i) row = mono z row := by
          unfold mono
          rw [List.all_eq_true.mpr fun x hx => decide_eq_true (by have := hle x hx; rw [app_len, hl]; omega), List.all_eq_true.mpr fun x hx => decide_eq_true (hle x hx)]
          rw [List.map_congr_left fun x hx => sg_left (h1 x hx) (hle x hx)]
        rw [e, rows_avoid hc hp n z hz row hr] at q
        cases q
theorem rows_signs {every : List (List Int)} {colours : Nat} (hc : colours ≤ 10) : ∀ (n : Nat), ∀ z ∈ rowsOfC every colours n, Signs colours z
  | 0, z, hz => by
    rw [List.mem_singleton.mp hz]
    exact fun c hc => absurd hc List.not_mem_nil
  | n + 1, y, hy => by
    obtain ⟨z, hz, hk⟩ := List.mem_flatMap.mp hy
    obtain ⟨i, hi, rfl⟩ := List.mem_map.mp hk
    have hi := List.mem_range.mp (List.mem_filter.mp hi).1
    intro c h
    rw [app_cps] at h
    rcases List.mem_append.mp h with h | h
    · exact rows_signs hc n z hz c h
    · unfold cs at h
      rw [digit_at (by omega) (by omega)] at h
      rw [List.mem_singleton.mp h]
      omega
theorem rows_end {every : List (List Int)} {colours n : Nat} (h : rowsOfC every colours n = []) : ∀ k, rowsOfC every colours (n + k) = []
  | 0 => h
  | k + 1 => by
    show (rowsOfC every colours (n + k)).flatMap _ = []
    rw [rows_end h k]; rfl
theorem first_none {every : List (List Int)} {colours n : Nat} : firstC every colours n = none ↔ rowsOfC every colours n = [] := by
  unfold firstC
  exact List.head?_eq_none_iff
end NC
namespace NC
open PySem PySem.Spec PyProof.Rows L2 RZ
theorem far_some {every : List (List Int)} {colours n : Nat} (h : farC every colours = some n) : 1 ≤ n ∧ n ≤ 16 ∧ rowsOfC every colours n = [] ∧ ∀ m, 1 ≤ m → m < n → rowsOfC every colours m ≠ [] := by
  unfold farC at h
  have h1 := List.find?_some h
  obtain ⟨h2, h3⟩ := List.mem_range'_1.mp (List.mem_of_find?_eq_some h)
  refine ⟨h2, by omega, first_none.mp (Option.isNone_iff_eq_none.mp h1), fun m m1 m2 e => ?_⟩
  obtain ⟨k, hk⟩ : ∃ k, n = k + 1 := ⟨n - 1, by omega⟩
  -- the first one found has none ahead of it
  obtain ⟨_, as, bs, e1, e2⟩ := List.find?_eq_some_iff_append.mp h
  have hm : m ∈ List.range' 1 16 := List.mem_range'_1.mpr ⟨m1, by omega⟩
  rw [e1] at hm
  have pw : (List.range' 1 16).Pairwise (· < ·) := by decide
  rw [e1] at pw
  rcases List.mem_append.mp hm with q | q
  · have := e2 m q
    rw [show firstC every colours m = none from first_none.mpr e] at this
    cases this
  · rcases List.mem_cons.mp q with q | q
    · omega
    · have := (List.pairwise_append.mp pw).2.1
      have := (List.pairwise_cons.mp this).1 m q
      omega
theorem far_no {every : List (List Int)} {colours : Nat} (h : farC every colours = none) : ∀ m, 1 ≤ m → m ≤ 16 → rowsOfC every colours m ≠ [] := fun m h1 h2 e => by
  unfold farC at h
  have := List.find?_eq_none.mp h m (List.mem_range'_1.mpr ⟨h1, by omega⟩)
  rw [first_none.mpr e] at this
  exact this rfl
/-- the least size up to k that no colouring has -/
def leastC (every : List (List Int)) (colours : Nat) : Nat → Option Nat
  | 0 => none
  | k + 1 => match leastC every colours k with
    | some n => some n
    | none => if rowsOfC every colours (k + 1) = [] then some (k + 1) else none
theorem least_some {every : List (List Int)} {colours : Nat} : ∀ {k n : Nat}, leastC every colours k = some n → 1 ≤ n ∧ n ≤ k ∧ rowsOfC every colours n = [] ∧ ∀ m, 1 ≤ m → m < n → rowsOfC every colours m ≠ []
  | 0, n, h => by cases h
  | k + 1, n, h => by
    unfold leastC at h
    cases q : leastC every colours k with
    | some n' =>
      rw [q] at h
      cases h
      obtain ⟨a, b, c, d⟩ := least_some q
      exact ⟨a, by omega, c, d⟩
    | none =>
      rw [q] at h
      by_cases e : rowsOfC every colours (k + 1) = []
      · simp only [e, if_true] at h
        cases h
        refine ⟨by omega, Nat.le_refl _, e, fun m h1 h2 => ?_⟩
        exact least_no q m h1 (by omega)
      · simp only [e, if_false] at h
        cases h
where
  least_no {every : List (List Int)} {colours : Nat} : ∀ {k : Nat}, leastC every colours k = none → ∀ m, 1 ≤ m → m ≤ k → rowsOfC every colours m ≠ []
    | 0, _, m, h1, h2 => by omega
    | k + 1, h, m, h1, h2 => by
      unfold leastC at h
      cases q : leastC every colours k with
      | some n' => rw [q] at h; cases h
      | none =>
        rw [q] at h
        by_cases e : rowsOfC every colours (k + 1) = []
        · simp only [e, if_true] at h
          cases h
        · by_cases c : m = k + 1
          · rw [c]; exact e
          · exact least_no q m h1 (by omega)
end NC
namespace NC
open PySem PySem.Spec PyProof.Rows L2 RZ
theorem least_no {every : List (List Int)} {colours k : Nat} (h : leastC every colours k = none) : ∀ m, 1 ≤ m → m ≤ k → rowsOfC every colours m ≠ [] := least_some.least_no h
/-- the least size by few answers is the far one by all -/
theorem far_least {L : List (List Int)} {u : Bool} {colours : Nat} (hc : colours ≤ 10) : (∀ n, leastC (ansU L 8 u) colours 6 = some n → farC (ansU L 16 u) colours = some n) ∧ (leastC (ansU L 8 u) colours 6 = none → ∀ f, farC (ansU L 16 u) colours = some f → 7 ≤ f ∧ f ≤ 16) := by
  have same : ∀ m, m ≤ 8 → rowsOfC (ansU L 16 u) colours m = rowsOfC (ansU L 8 u) colours m := fun m hm => rows_to hc (ansU_to (n := 8) (by decide) (by decide)) m hm
  constructor
  · intro n h
    obtain ⟨h1, h2, h3, h4⟩ := least_some h
    obtain ⟨k, rfl⟩ : ∃ k, n = k + 1 := ⟨n - 1, by omega⟩
    refine far_at (by omega) (fun m m1 m2 => ?_) ?_
    · cases q : firstC (ansU L 16 u) colours m with
      | some z => rfl
      | none =>
        have e := first_none.mp q
        rw [same m (by omega)] at e
        exact absurd e (h4 m m1 (by omega))
    · rw [first_none.mpr (by rw [same _ (by omega)]; exact h3)]; rfl
  · intro h f hf
    obtain ⟨h1, h2, h3, h4⟩ := far_some hf
    refine ⟨Nat.lt_of_not_le fun c => ?_, h2⟩
    have c : f ≤ 6 := c
    rw [same f (by omega)] at h3
    exact least_no h f h1 c h3
/-- the first of them, told -/
theorem first_is {every : List (List Int)} {colours n : Nat} {z : Str} (h : firstC every colours n = some z) : z ∈ rowsOfC every colours n := by
  unfold firstC at h
  exact List.mem_of_mem_head? h
/-- whatever the first one is: no answer is in one colour -/
theorem first_avoids {every : List (List Int)} {colours n : Nat} {z : Str} (hc : colours ≤ 10) (hp : ∀ row ∈ every, row ≠ [] ∧ ∀ x ∈ row, 1 ≤ x) (h : firstC every colours n = some z) : oneCol every z = none := by
  unfold oneCol
  rw [List.find?_eq_none]
  intro row hr q
  rw [rows_avoid hc hp n z (first_is h) row hr] at q
  cases q
end NC

end
section
set_option Elab.async false
set_option linter.all false
set_option maxRecDepth 100000
set_option maxHeartbeats 4000000
namespace NC
open PySem PySem.Spec PyProof.Rows L2 RZ
/-! ### colourings by digits, fast -/
def fz (ds : List Nat) : Str := ⟨(ds.map (48 + ·)).toArray⟩
theorem fz_cps (ds : List Nat) : (fz ds).cps.toList = ds.map (48 + ·) := by simp [fz]
theorem fz_len (ds : List Nat) : (fz ds).length = ds.length := by rw [str_length, fz_cps, List.length_map]
theorem str_of_cps {x y : Str} (h : x.cps.toList = y.cps.toList) : x = y := by
  obtain ⟨⟨a⟩⟩ := x
  obtain ⟨⟨b⟩⟩ := y
  have h : a = b := h
  rw [h]
theorem cs_cps {c : Nat} (hc : c < 10) : (cs c).cps.toList = [48 + c] := by
  have := digit_at (i := (c : Int)) (by omega) (by omega)
  rw [Int.toNat_natCast] at this
  exact this
theorem fz_snoc {ds : List Nat} {c : Nat} (hc : c < 10) : fz ds ++ cs c = fz (ds ++ [c]) := str_of_cps (by
  rw [app_cps, fz_cps, fz_cps, cs_cps hc, List.map_append]; rfl)
def lotF (n : Nat) (row : List Int) : List Nat := (row.filter fun x => !decide (x = (n : Int))).map fun x => (x - 1).toNat
def tblF (every : List (List Int)) (k : Nat) : List (List (List Nat)) := (List.range k).map fun n : Nat => (every.filter (top1 ((n : Int) + 1))).map (lotF (n + 1))
def goesF (tbl : List (List (List Nat))) (ds : List Nat) (c : Nat) : Bool := !(tbl.getD ds.length []).any fun lot => lot.all fun i => Nat.beq (ds.getD i 10) c
def kidsF (tbl : List (List (List Nat))) (colours : Nat) (ds : List Nat) : List (List Nat) := ((List.range colours).filter (goesF tbl ds)).map fun c => ds ++ [c]
def rowsF (tbl : List (List (List Nat))) (colours : Nat) : Nat → List (List Nat)
  | 0 => [[]]
  | n + 1 => (rowsF tbl colours n).flatMap (kidsF tbl colours)
theorem sg_f {ds : List Nat} {c : Nat} {x : Int} (hc : c < 10) : decide (sg (fz ds) x = cs c) = Nat.beq (ds.getD (x - 1).toNat 10) c := by
  have e : sg (fz ds) x = cs c ↔ (ds.map (48 + ·)).getD (x - 1).toNat 0 = 48 + c := by
    constructor
    · intro h
      have := congrArg (fun z : Str => z.cps.toList) h
      simp only [cs_cps hc] at this
      unfold sg at this
      rw [fz_cps] at this
      simpa using this
    · intro h
      refine str_of_cps ?_
      rw [cs_cps hc]
      unfold sg
      rw [fz_cps, h]
  have e2 : (ds.map (48 + ·)).getD (x - 1).toNat 0 = 48 + c ↔ ds.getD (x - 1).toNat 10 = c := by
    rw [List.getD_eq_getElem?_getD, List.getD_eq_getElem?_getD, List.getElem?_map]
    cases ds[(x - 1).toNat]? with
    | none => simp; omega
    | some d => simp
  rw [Bool.eq_iff_iff, decide_eq_true_eq, e, e2, Nat.beq_eq]
theorem any_filter {α : Type} (p q : α → Bool) : ∀ xs : List α, (xs.filter p).any q = xs.any fun x => p x && q x
  | [] => rfl
  | x :: xs => by
    rw [List.any_cons, ← any_filter p q xs]
    cases h : p x with
    | true => rw [List.filter_cons_of_pos h, List.any_cons]; rfl
    | false => rw [List.filter_cons_of_neg (by rw [h]; decide)]; rfl
theorem all_filter {α : Type} (p q : α → Bool) : ∀ xs : List α, (xs.filter p).all q = xs.all fun x => !p x || q x
  | [] => rfl
  | x :: xs => by
    rw [List.all_cons, ← all_filter p q xs]
    cases h : p x with
    | true => rw [List.filter_cons_of_pos h, List.all_cons]; rfl
    | false => rw [List.filter_cons_of_neg (by rw [h]; decide)]; rfl
theorem goes_f {every : List (List Int)} {k : Nat} {ds : List Nat} {c : Nat} (hc : c < 10) (hk : ds.length < k) : goesOn every (fz ds) (cs c) = goesF (tblF every k) ds c := by
  unfold goesOn goesF
  congr 1
  have et : (tblF every k).getD ds.length [] = (every.filter (top1 ((ds.length : Int) + 1))).map (lotF (ds.length + 1)) := by
    unfold tblF
    rw [List.getD_eq_getElem?_getD, List.getElem?_map, List.getElem?_range hk]; rfl
  rw [et, List.any_map, any_filter]
  congr 1
  funext row
  unfold clash
  rw [fz_len]
  congr 1
  show _ = (lotF (ds.length + 1) row).all _
  unfold lotF
  rw [List.all_map, all_filter]
  congr 1
  funext x
  show _ = (_ || Nat.beq _ c)
  rw [Bool.not_not, sg_f hc]
  rfl
theorem kids_f {every : List (List Int)} {k colours : Nat} {ds : List Nat} (hc : colours ≤ 10) (hk : ds.length < k) : kids every colours (fz ds) = (kidsF (tblF every k) colours ds).map fz := by
  unfold kids kidsF
  rw [List.map_map]
  have e : (List.range colours).filter (fun i => goesOn every (fz ds) (cs i)) = (List.range colours).filter (goesF (tblF every k) ds) :=
    List.filter_congr fun i hi => goes_f (by have := List.mem_range.mp hi; omega) hk
  rw [e]
  refine List.map_congr_left fun i hi => ?_
  have := List.mem_range.mp (List.mem_filter.mp hi).1
  exact fz_snoc (by omega)
theorem rowsF_len {tbl : List (List (List Nat))} {colours : Nat} : ∀ (n : Nat), ∀ ds ∈ rowsF tbl colours n, ds.length = n
  | 0, ds, h => by rw [List.mem_singleton.mp h]; rfl
  | n + 1, ds, h => by
    obtain ⟨d, hd, h⟩ := List.mem_flatMap.mp h
    obtain ⟨c, _, rfl⟩ := List.mem_map.mp h
    rw [List.length_append, rowsF_len n d hd]; rfl
theorem rows_f {every : List (List Int)} {k colours : Nat} (hc : colours ≤ 10) : ∀ n, n ≤ k → rowsOfC every colours n = (rowsF (tblF every k) colours n).map fz
  | 0, _ => rfl
  | n + 1, h => by
    show (rowsOfC every colours n).flatMap _ = ((rowsF (tblF every k) colours n).flatMap _).map fz
    rw [rows_f (k := k) hc n (by omega), List.map_flatMap, List.flatMap_map]
    have : ∀ rows : List (List Nat), (∀ ds ∈ rows, ds.length = n) → rows.flatMap (fun ds => kids every colours (fz ds)) = rows.flatMap fun ds => (kidsF (tblF every k) colours ds).map fz := fun rows => by
      induction rows with
      | nil => intro _; rfl
      | cons z rows ih =>
        intro hz
        rw [List.flatMap_cons, List.flatMap_cons, ih fun y hy => hz y (List.mem_cons_of_mem _ hy), kids_f (k := k) hc (by rw [hz z List.mem_cons_self]; omega)]
    exact this _ (rowsF_len n)
/-- a colouring, sign by sign -/
def walkF (tbl : List (List (List Nat))) (colours : Nat) : List Nat → List Nat → Bool
  | _, [] => true
  | ds, c :: cs => decide (c < colours) && goesF tbl ds c && walkF tbl colours (ds ++ [c]) cs
theorem walk_in {tbl : List (List (List Nat))} {colours : Nat} : ∀ (cs ds : List Nat), ds ∈ rowsF tbl colours ds.length → walkF tbl colours ds cs = true → ds ++ cs ∈ rowsF tbl colours (ds.length + cs.length)
  | [], ds, h, _ => by rw [List.append_nil]; exact h
  | c :: cs, ds, h, w => by
    unfold walkF at w
    simp only [Bool.and_eq_true, decide_eq_true_eq] at w
    obtain ⟨⟨w1, w2⟩, w3⟩ := w
    have h1 : ds ++ [c] ∈ rowsF tbl colours (ds ++ [c]).length := by
      rw [List.length_append]
      exact List.mem_flatMap.mpr ⟨ds, h, List.mem_map.mpr ⟨c, List.mem_filter.mpr ⟨List.mem_range.mpr w1, w2⟩, rfl⟩⟩
    have := walk_in cs (ds ++ [c]) h1 w3
    rw [List.append_assoc, List.length_append] at this
    rw [List.length_cons, show ds.length + (cs.length + 1) = ds.length + [c].length + cs.length by rw [List.length_singleton]; omega]
    exact this
theorem rows_walk {every : List (List Int)} {colours : Nat} {z : List Nat} (hc : colours ≤ 10) (hl : z.length = 16) (h : walkF (tblF every 16) colours [] z = true) : ∀ m, m ≤ 16 → rowsOfC every colours m ≠ [] := fun m hm e => by
  have h1 := walk_in z [] List.mem_cons_self h
  rw [List.nil_append, List.length_nil, Nat.zero_add, hl] at h1
  have h2 := rows_end e (16 - m)
  rw [show m + (16 - m) = 16 by omega, rows_f hc 16 (Nat.le_refl _)] at h2
  rw [List.map_eq_nil_iff] at h2
  rw [h2] at h1
  exact absurd h1 List.not_mem_nil
theorem far_none {every : List (List Int)} {colours : Nat} (h : ∀ m, m ≤ 16 → rowsOfC every colours m ≠ []) : farC every colours = none := by
  cases q : farC every colours with
  | none => rfl
  | some n =>
    obtain ⟨_, h2, h3, _⟩ := far_some q
    exact absurd h3 (h n h2)
theorem far_walk {every : List (List Int)} {colours : Nat} (tbl : List (List (List Nat))) (z : List Nat) (ht : tblF every 16 = tbl) (hc : colours ≤ 10) (hl : z.length = 16) (h : walkF tbl colours [] z = true) : farC every colours = none :=
  far_none (rows_walk hc hl (by rw [ht]; exact h))
theorem far_f {every : List (List Int)} {colours n : Nat} (tbl : List (List (List Nat))) (ht : tblF every 16 = tbl) (hc : colours ≤ 10) (hn : n < 16) (h1 : (rowsF tbl colours n).isEmpty = false) (h2 : (rowsF tbl colours (n + 1)).isEmpty = true) : farC every colours = some (n + 1) := by
  have e1 : rowsOfC every colours n ≠ [] := fun e => by
    rw [rows_f (k := 16) hc n (by omega), ht, List.map_eq_nil_iff] at e
    rw [e] at h1; cases h1
  refine far_at hn (fun m m1 m2 => ?_) ?_
  · cases q : firstC every colours m with
    | some z => rfl
    | none =>
      have e := rows_end (first_none.mp q) (n - m)
      rw [show m + (n - m) = n by omega] at e
      exact absurd e e1
  · rw [first_none.mpr (by rw [rows_f (k := 16) hc _ (by omega), ht, List.isEmpty_iff.mp h2]; rfl)]; rfl
theorem first_f {every : List (List Int)} {colours n : Nat} (tbl : List (List (List Nat))) (r : Option (List Nat)) (ht : tblF every n = tbl) (hc : colours ≤ 10) (h : (rowsF tbl colours n).head? = r) : firstC every colours n = r.map fz := by
  unfold firstC
  rw [rows_f hc n (Nat.le_refl _), ht, List.head?_map, h]
theorem count_f {every : List (List Int)} {colours n : Nat} (tbl : List (List (List Nat))) (r : Nat) (ht : tblF every n = tbl) (hc : colours ≤ 10) (h : (rowsF tbl colours n).length = r) : (rowsOfC every colours n).length = r := by
  rw [rows_f hc n (Nat.le_refl _), ht, List.length_map, h]
theorem kids_nil {colours : Nat} {z : Str} : (kids [] colours z).length = colours := by
  unfold kids
  rw [List.length_map]
  have : (List.range colours).filter (fun i => goesOn [] z (cs i)) = List.range colours := List.filter_eq_self.mpr fun i _ => rfl
  rw [this, List.length_range]
theorem rows_nil {colours : Nat} : ∀ n, (rowsOfC [] colours n).length = colours ^ n
  | 0 => rfl
  | n + 1 => by
    show ((rowsOfC [] colours n).flatMap (kids [] colours)).length = _
    have : ∀ rows : List Str, (rows.flatMap (kids [] colours)).length = rows.length * colours := fun rows => by
      induction rows with
      | nil => simp
      | cons z rows ih => rw [List.flatMap_cons, List.length_append, ih, kids_nil, List.length_cons, Nat.succ_mul, Nat.add_comm]
    rw [this, rows_nil n, Nat.pow_succ]
end NC

end
section
set_option Elab.async false
set_option linter.all false
set_option maxRecDepth 100000
set_option maxHeartbeats 4000000
namespace NC
open PySem PySem.Spec PyProof.Rows L2 RZ
/-! ### an int by a test -/
def pif (b : Bool) (p q : P) : P := match b with
  | true => p
  | false => q
theorem pif_int {b : Bool} {x y : Int} : pif b (.int x) (.int y) = .int (if b = true then x else y) := by cases b <;> rfl
def dIfC (t : TDt) (p q : P) : TD := fun ρ M Φ => t ρ M fun b M1 => Φ (pif b p q) M1
theorem de_ifC {X : Cx} {R : Rz} {c a b : Expr} {t : TDt} {p q : P} {pos : Pos} (hc : DT X R c t) (ha : DE X R a (dC p)) (hb : DE X R b (dC q)) : DE X R (.IfExp c a b pos) (dIfC t p q) := by
  obtain ⟨g1, p1, k1⟩ := hc.ex
  obtain ⟨g2, p2, k2⟩ := ha.ex
  obtain ⟨g3, p3, k3⟩ := hb.ex
  refine de_of (pe_ifExp p1 p2 p3) fun Z σ H M ρ Φ Q s en l t k => k1 Z σ H M ρ _ _ s en l t fun z Z1 M1 H1 s1 r1 q1 => ?_
  cases z with
  | true => exact k2 Z1 σ H1 M1 ρ _ _ s1 (en.mono r1.z) (l.next r1) q1 fun p v Z2 M2 H2 s2 r2 a2 q2 => k p v Z2 M2 H2 s2 (r1.trans r2) a2 q2
  | false => exact k3 Z1 σ H1 M1 ρ _ _ s1 (en.mono r1.z) (l.next r1) q1 fun p v Z2 M2 H2 s2 r2 a2 q2 => k p v Z2 M2 H2 s2 (r1.trans r2) a2 q2
/-- the same as dIf, left shut by simp -/
def dIfN (c : TDt) (ta tb : TD) : TD := dIf c ta tb
theorem de_ifN {X : Cx} {R : Rz} {c a b : Expr} {t : TDt} {ta tb : TD} {pos : Pos} (hc : DT X R c t) (ha : DE X R a ta) (hb : DE X R b tb) : DE X R (.IfExp c a b pos) (dIfN t ta tb) := de_if hc ha hb
/-- it is worth r -/
theorem dIfN_is {c : TDt} {ta tb : TD} {ρ : Rho} {M : Mm} {Φ : P → Mm → Prop} (r : P) (h : Φ r M) (k : ∀ Φ : P → Mm → Prop, Φ r M → dIf c ta tb ρ M Φ) : dIfN c ta tb ρ M Φ := k Φ h
end NC

end
section
set_option Elab.async false
set_option linter.all false
set_option maxRecDepth 100000
set_option maxHeartbeats 4000000
namespace NC
open PySem PySem.Spec PyProof.Rows L2 RZ
/-! ### instances of own classes -/
def putP (f : Str) (q : P) : List (Str × P) → List (Str × P)
  | [] => [(f, q)]
  | (g, x) :: r => if g = f then (g, q) :: r else (g, x) :: putP f q r
section
variable {K : PySem.W.Frag} {Z : Hp}
theorem IsF.put {f : Str} {q : P} {v : V} (a : Is K Z q v) : ∀ {fs : List (Str × P)} {vs : List (Str × V)}, IsF K Z fs vs → IsF K Z (putP f q fs) (putF f v vs)
  | [], vs, h => by
    have e : vs = [] := h
    subst e
    exact ⟨v, [], rfl, a, rfl⟩
  | (g, x) :: fs, vs, h => by
    obtain ⟨u, r, rfl, b, l⟩ := h
    show IsF K Z (if g = f then (g, q) :: fs else (g, x) :: putP f q fs) (if g = f then (g, v) :: r else (g, u) :: putF f v r)
    by_cases e : g = f
    · rw [if_pos e, if_pos e]; exact ⟨v, r, rfl, a, l⟩
    · rw [if_neg e, if_neg e]; exact ⟨u, _, rfl, b, IsF.put a l⟩
theorem IsF.look {f : Str} {q : P} : ∀ {fs : List (Str × P)} {vs : List (Str × V)}, IsF K Z fs vs → fs.lookup f = some q → ∃ v, vs.lookup f = some v ∧ Is K Z q v
  | [], vs, h, e => by cases e
  | (g, x) :: fs, vs, h, e => by
    obtain ⟨u, r, rfl, b, l⟩ := h
    rw [List.lookup_cons] at e
    rw [List.lookup_cons]
    cases c : f == g with
    | true =>
      rw [c] at e
      cases e
      exact ⟨u, rfl, b⟩
    | false =>
      rw [c] at e
      exact IsF.look l e
theorem IsF.lookN {f : Str} : ∀ {fs : List (Str × P)} {vs : List (Str × V)}, IsF K Z fs vs → fs.lookup f = none → vs.lookup f = none
  | [], vs, h, e => by
    have e : vs = [] := h
    subst e
    rfl
  | (g, x) :: fs, vs, h, e => by
    obtain ⟨u, r, rfl, b, l⟩ := h
    rw [List.lookup_cons] at e
    rw [List.lookup_cons]
    cases c : f == g with
    | true => rw [c] at e; cases e
    | false => rw [c] at e; exact IsF.lookN l e
theorem IsF.len : ∀ {fs : List (Str × P)} {vs : List (Str × V)}, IsF K Z fs vs → vs.length = fs.length
  | [], vs, h => by
    have e : vs = [] := h
    subst e
    rfl
  | x :: fs, vs, h => by
    obtain ⟨u, r, rfl, b, l⟩ := h
    simp only [List.length_cons, IsF.len l]
end
section
variable {X : Cx} {R : Rz}
/-! e.f -/
def dFld (C : Addr) (f : Str) (t : TD) : TD := fun ρ M Φ => t ρ M fun p M1 => match p with
  | .ref a => ∃ dx fs q, M1 a = some (.ins C dx fs) ∧ fs.lookup f = some q ∧ Φ q M1
  | _ => False
theorem de_fld {C : Addr} {f : Str} {e : Expr} {t : TD} {pos : Pos} (c : Cls X.K C) (n : NoAttr X.K C f) (he : DE X R e t) (hb : attributeBase e f X.env (eval e X.env) = eval e X.env := by rfl) : DE X R (.Attribute e f pos) (dFld C f t) := by
  obtain ⟨g1, p1, k1⟩ := he.ex
  refine de_of (pe_fld p1 hb) fun Z σ H M ρ Φ Q s en l t k => k1 Z σ H M ρ _ _ s en l t fun p v Z1 M1 H1 s1 r1 a1 q1 => ?_
  cases p <;> first | exact q1.elim | skip
  obtain ⟨dx, fs, q, hM, hf, q1⟩ := q1
  obtain ⟨vs, hv, hF⟩ := s1.m _ _ hM
  obtain ⟨u, hu, au⟩ := hF.look hf
  exact ⟨_, C, dx, vs, u, a1, hv, c, n, hu, k q u Z1 M1 H1 s1 r1 au q1⟩
/-! e.f = v -/
def dFldS (C : Addr) (f : Str) (tv to : TD) : TSd := fun D ρ M => tv ρ M fun q M1 => to ρ M1 fun p M2 => match p with
  | .ref a => ∃ dx fs, M2 a = some (.ins C dx fs) ∧ fs.length < 1000 ∧ D.nx ρ (updM M2 a (.ins C dx (putP f q fs)))
  | _ => False
theorem ds_fld {C : Addr} {f : Str} {o value : Expr} {tv to : TD} {pos pos' : Pos} (c : Cls X.K C) (n : NoAttr X.K C f) (hv : DE X R value tv) (ho : DE X R o to) (hs : swapsWith value (some (.Attribute o f pos')) pos.line X.env = pure false := by rfl) : DS X R (.Assign [.Attribute o f pos'] value pos) (dFldS C f tv to) := by
  obtain ⟨g1, p1, k1⟩ := hv.ex
  obtain ⟨g2, p2, k2⟩ := ho.ex
  refine ⟨_, ps_fld p2 p1 hs, fun Z σ H M ρ D D' s en l k t => k1 Z σ H M ρ _ _ s en l t fun q v Z1 M1 H1 s1 r1 a1 q1 => ?_⟩
  refine k2 Z1 σ H1 M1 ρ _ _ s1 (en.mono r1.z) (l.next r1) q1 fun p u Z2 M2 H2 s2 r2 a2 q2 => ?_
  cases p <;> first | exact q2.elim | skip
  obtain ⟨dx, fs, hM, hl, q2⟩ := q2
  obtain ⟨vs, hv, hF⟩ := s2.m _ _ hM
  refine ⟨_, C, dx, vs, a2, hv, c, n, by rw [hF.len]; exact hl, ?_⟩
  obtain ⟨s3, r3⟩ := s2.wr (u := .ins C dx (putP f q fs)) (o := .ins C dx (putF f v vs)) hM ⟨_, upd_same, hF.put (a1.mono r2.z)⟩
  exact k.nx ρ σ Z2 _ _ s3 ((r1.trans r2).trans r3) (en.mono (r1.trans r2).z) q2
/-! methods -/
/-- a method that keeps a promise -/
def Fm (P : Program) (w : World) (K : PySem.W.Frag) (mg : Str → Option Value) (base : Heap) (k : Nat) (C : Addr) (m : Str) (ps : List Str) (sp : DSp) : Prop :=
  ∃ f fd, FnP P w K mg base k f fd ps sp ∧ Meth K C m f ∧ L2.Binds K fd ps []
theorem Fm.mono {P : Program} {w : World} {K : PySem.W.Frag} {mg : Str → Option Value} {base : Heap} {j k : Nat} {C : Addr} {m : Str} {ps : List Str} {sp : DSp} (F : Fm P w K mg base j C m ps sp) (h : j ≤ k) : Fm P w K mg base k C m ps sp :=
  let ⟨f, fd, a, b⟩ := F; ⟨f, fd, a.mono h, b⟩
def dMeth (C : Addr) (m : Str) (n : Nat) (sp : DSp) (to : TD) (ta : TDa) : TD := fun ρ M Φ => to ρ M fun p M1 => match p with
  | .ref a => (∃ dx fs, M1 a = some (.ins C dx fs) ∧ fs.lookup m = none) ∧ ta ρ M1 fun ds M2 => ds.length + 1 = n ∧ sp (.ref a :: ds) M2 Φ (fun _ _ _ => False)
  | _ => False
theorem de_meth {C : Addr} {k : Nat} {m : Str} {ps : List Str} {sp : DSp} {o e : Expr} {es : List Expr} {to : TD} {ta : TDa} {apos pos : Pos} {pl : Sem Bool} (c : Cls X.K C) (F : Fm X.prog X.w X.K X.mg X.base k C m ps sp) (hr : Room k X.A) (ho : DE X R o to) (ha : DA X R (e :: es) ta)
    (hst : starEach (e :: es) X.env = (false, eval e X.env) :: starEach es X.env := by rfl) (hpl : (backTo pos (starEach es X.env)).any (·.1) = false := by rfl)
    (ht : eval (.Call (.Attribute o m apos) (e :: es) [] pos) X.env = (do
      let ov ← eval o X.env
      standAt apos.atName
      let (f, first) ← holding [ov] (getMethod ov m pl)
      callWith pos f first (backTo pos (starEach (e :: es) X.env)) (backToKw pos (keywordEach [] X.env))) := by rfl) :
    DE X R (.Call (.Attribute o m apos) (e :: es) [] pos) (dMeth C m ps.length sp to ta) := by
  obtain ⟨f, fd, F1, hm, hb⟩ := F
  obtain ⟨g1, p1, k1⟩ := ho.ex
  obtain ⟨g2, p2, k2⟩ := ha.ex
  refine de_of (pe_meth (pl := pl) p1 c hm F1 hr hb .nil passLN p2 hst hpl ht) fun Z σ H M ρ Φ Q s en l t k => k1 Z σ H M ρ _ _ s en l t fun p v Z1 M1 H1 s1 r1 a1 q1 => ?_
  cases p <;> first | exact q1.elim | skip
  obtain ⟨⟨dx, fs, hM, hf⟩, q1⟩ := q1
  obtain ⟨vs, hv, hF⟩ := s1.m _ _ hM
  refine ⟨_, dx, vs, a1, hv, hF.lookN hf, k2 Z1 σ H1 M1 ρ _ _ s1 (en.mono r1.z) (l.next r1) q1 fun ds us Z2 M2 H2 s2 r2 a2 q2 => ?_⟩
  rw [List.append_nil]
  exact ⟨Z2, M2, .ref _ :: ds, Φ, _, s2, ⟨v, us, rfl, a1, a2⟩, q2.1, q2.2, k.next (r1.trans r2), fun cls fs d Z3 M3 H3 s3 r3 x3 q3 => q3.elim⟩
def dMeth0 (C : Addr) (m : Str) (sp : DSp) (to : TD) : TD := fun ρ M Φ => to ρ M fun p M1 => match p with
  | .ref a => (∃ dx fs, M1 a = some (.ins C dx fs) ∧ fs.lookup m = none) ∧ sp [.ref a] M1 Φ (fun _ _ _ => False)
  | _ => False
theorem de_meth0 {C : Addr} {k : Nat} {m : Str} {x : Str} {sp : DSp} {o : Expr} {to : TD} {apos pos : Pos} {pl : Sem Bool} (c : Cls X.K C) (F : Fm X.prog X.w X.K X.mg X.base k C m [x] sp) (hr : Room k X.A) (ho : DE X R o to)
    (ht : eval (.Call (.Attribute o m apos) [] [] pos) X.env = (do
      let ov ← eval o X.env
      standAt apos.atName
      let (f, first) ← holding [ov] (getMethod ov m pl)
      callWith pos f first (backTo pos (starEach [] X.env)) (backToKw pos (keywordEach [] X.env))) := by rfl) :
    DE X R (.Call (.Attribute o m apos) [] [] pos) (dMeth0 C m sp to) := by
  obtain ⟨f, fd, F1, hm, hb⟩ := F
  obtain ⟨g1, p1, k1⟩ := ho.ex
  refine de_of (pe_meth0 (pl := pl) p1 c hm F1 hr hb .nil passLN ht) fun Z σ H M ρ Φ Q s en l t k => k1 Z σ H M ρ _ _ s en l t fun p v Z1 M1 H1 s1 r1 a1 q1 => ?_
  cases p <;> first | exact q1.elim | skip
  obtain ⟨⟨dx, fs, hM, hf⟩, q1⟩ := q1
  obtain ⟨vs, hv, hF⟩ := s1.m _ _ hM
  refine ⟨_, dx, vs, a1, hv, hF.lookN hf, ?_⟩
  exact ⟨Z1, M1, [.ref _], Φ, _, s1, ⟨v, [], rfl, a1, rfl⟩, rfl, q1, k.next r1, fun cls fs d Z3 M3 H3 s3 r3 x3 q3 => q3.elim⟩
/-! C(..) -/
def Fi (P : Program) (w : World) (K : PySem.W.Frag) (mg : Str → Option Value) (base : Heap) (k : Nat) (C : Addr) (ps : List Str) (sp : DSp) : Prop :=
  ∃ f fd, FnP P w K mg base k f fd ps sp ∧ L2.Mk K C f ∧ L2.Binds K fd ps []
def dMake (C : Addr) (n : Nat) (sp : DSp) (ta : TDa) : TD := fun ρ M Φ => ta ρ M fun ds M1 => ds.length + 1 = n ∧ ∀ x dx, M1 x = none → sp (.ref x :: ds) (updM M1 x (.ins C dx [])) (fun p M2 => p = .non ∧ Φ (.ref x) M2) (fun _ _ _ => False)
theorem de_make {C : Addr} {k : Nat} {x : Str} {ps : List Str} {sp : DSp} {e : Expr} {es : List Expr} {ta : TDa} {p pos : Pos} (F : Fi X.prog X.w X.K X.mg X.base k C ps sp) (hr : Room (k + 1) X.A) (hg : Gl X x) (hm : X.mg x = some (.ref C)) (ha : DA X R (e :: es) ta)
    (hdb : (x == ("__debug__" : Str)) = false := by decide) (he : starEach (e :: es) X.env = (false, eval e X.env) :: starEach es X.env := by rfl) (hpl : (backTo pos (starEach es X.env)).any (·.1) = false := by rfl) :
    DE X R (.Call (.Name x p) (e :: es) [] pos) (dMake C ps.length sp ta) := by
  obtain ⟨f, fd, F1, mk, hb⟩ := F
  obtain ⟨g1, p1, k1⟩ := ha.ex
  refine de_of (pe_make mk F1 hr hg hm hb .nil passLN p1 hdb he hpl) fun Z σ H M ρ Φ Q s en l t k => k1 Z σ H M ρ _ _ s en l t fun ds us Z1 M1 H1 s1 r1 a1 q1 => ?_
  intro y dx hy hdx hne
  rw [List.append_nil]
  obtain ⟨s2, r2⟩ := s1.tmp (o := .own y) hdx
  have hy2 : upd H1 dx (.own y) y = none := by rw [upd_ne (Ne.symm hne)]; exact hy
  obtain ⟨s3, r3⟩ := s2.new (u := .ins C dx []) (o := .ins C dx []) hy2 ⟨[], upd_same, rfl⟩
  refine ⟨Z1, _, .ref y :: ds, fun p M2 => p = .non ∧ Φ (.ref y) M2, _, s3, ⟨.ref y, us, rfl, rfl, a1⟩, q1.1, q1.2 y dx (s1.mn hy), fun p v Z4 M4 H4 s4 r4 a4 q4 => ?_, fun cls fs d Z3 M3 H3 s3 r3 x3 q3 => q3.elim⟩
  obtain ⟨rfl, q4⟩ := q4
  exact ⟨a4, k (.ref y) (.ref y) Z4 M4 H4 s4 (((r1.trans r2).trans r3).trans r4) rfl q4⟩
/-! properties -/
def Fp (P : Program) (w : World) (K : PySem.W.Frag) (mg : Str → Option Value) (base : Heap) (k : Nat) (C : Addr) (m : Str) (x : Str) (sp : DSp) : Prop :=
  ∃ p g fd, FnP P w K mg base k g fd [x] sp ∧ PropOf K C m p g ∧ L2.Binds K fd [x] []
def dProp (C : Addr) (sp : DSp) (to : TD) : TD := fun ρ M Φ => to ρ M fun p M1 => match p with
  | .ref a => (∃ dx fs, M1 a = some (.ins C dx fs)) ∧ sp [.ref a] M1 Φ (fun _ _ _ => False)
  | _ => False
theorem passLNx {X : Cx} : Passes (L2N.CX X.prog X.w) X.nox E0 := fun _ _ _ _ _ _ _ h => by
  obtain ⟨_, _, _, _, _, _, _, _, _, _, _, _, z⟩ := h
  exact z.elim
theorem de_prop {C : Addr} {k : Nat} {m x : Str} {sp : DSp} {o : Expr} {to : TD} {pos : Pos} (c : Cls X.K C) (F : Fp X.prog X.w X.K X.mg X.base k C m x sp) (hr : Room (k + 1) X.A) (ho : DE X R o to) (hb : attributeBase o m X.env (eval o X.env) = eval o X.env := by rfl) :
    DE X R (.Attribute o m pos) (dProp C sp to) := by
  obtain ⟨p, g, fd, F1, hp, hbi⟩ := F
  obtain ⟨g1, p1, k1⟩ := ho.ex
  refine de_of (pe_prop p1 c hp F1 hr hbi .nil passLNx hb) fun Z σ H M ρ Φ Q s en l t k => k1 Z σ H M ρ _ _ s en l t fun p v Z1 M1 H1 s1 r1 a1 q1 => ?_
  cases p <;> first | exact q1.elim | skip
  obtain ⟨⟨dx, fs, hM⟩, q1⟩ := q1
  obtain ⟨vs, hv, hF⟩ := s1.m _ _ hM
  exact ⟨_, dx, vs, a1, hv, Z1, M1, [.ref _], Φ, _, s1, ⟨.ref _, [], rfl, rfl, rfl⟩, rfl, q1, k.next r1, fun cls fs d Z3 M3 H3 s3 r3 x3 q3 => q3.elim⟩
end
end NC

end
section
set_option Elab.async false
set_option linter.all false
set_option maxRecDepth 100000
set_option maxHeartbeats 4000000
namespace NcCM
open PySem PySem.W PySem.Calls PyProof.Rows
section
variable {prog : Program} {w : World} {A : Around} {E : Value → Shared → Prop} {s : Shared} {K : Frag} {x C f : Addr} {ox : Obj} {od : Option Obj}
/-- x op= b where the class of x has the method -/
theorem inplace_own {op : Operator} {b : Value} {Q : Value → Shared → Prop} (X : K.In s.heap) (I : InstAt s.heap x ox C od) (hc : selfFirst K C = true) (hs : findIn K (.ref C) (dunderI op.info.2) = some (some (.ref f)))
    (hf : isFn K (.ref f) = true) (h : wpAny (model prog w) A (call (.ref f) [.ref x, b]) (W.CmpBack Q) E s) : wpAny (model prog w) A (inplaceOp op (.ref x) b) Q E s := by
  obtain ⟨cd, rest, hcd, hm⟩ := ksp_first hc
  have one := ksp_try X I hs hf h
  obtain ⟨hh, g, d, tt, os⟩ := s
  have L1 : Looks (model prog w) hh (typeOf (.ref x)) (.ref C) := I.type
  have L2 : Looks (model prog w) hh (fillsInplaceSlot (.ref C) op.info.2 (op == .Add)) true := ksp_fillsI X hcd hm hs
  unfold inplaceOp
  refine wpAny_holding ?_
  ksp_lk
  refine wpAny_mono one (fun r s' hr' => ?_) fun _ _ e => e
  obtain ⟨v, rfl, hq⟩ := hr'
  ksp_lk
  exact hq
theorem truthy_own {M : Model} {Q : Bool → Shared → Prop} (X : K.In s.heap) (I : InstAt s.heap x ox C od) (hs : findIn K (.ref C) "__bool__" = some (some (.ref f))) (hf : isFn K (.ref f) = true)
    (h : wpAny M A (call (.ref f) [.ref x]) (W.BoolBack Q) E s) : wpAny M A (truthy (.ref x)) Q E s := by
  unfold truthy
  refine wpAny_bind (m := callSpecial? (.ref x) (Str.ofString "__bool__")) (special_fn X I hs (beq_iff_eq.mp hf) (wpAny_mono h (fun r s' hr => ?_) fun _ _ y => y))
  cases r <;> first | exact hr.elim | skip
  exact wpAny_pure hr
def Hold (p : Prop) : Prop := p
theorem hold_tru {M : Model} {v : Value} {Q : Bool → Shared → Prop} (h : Hold (wpAny M A (truthy v) Q E s)) : wpAny M A (truthy v) Q E s := h
theorem meets_bool (a : Addr) : MeetsIn prog w (Builtin.«bool.__new__» ⟨[.type "bool", .ref a], []⟩) (fun A R s => wpAny (model prog w) A.in1 (truthy (.ref a)) (fun b s' => R (.ok (.ret (.bool b))) s') (fun e s' => R (.error e) s') s) :=
  .of_wp fun A R s hs => by
    have f1 := F.conv_sub_bool
    obtain ⟨hp, g, d, tk, os⟩ := s
    repeat (any_goals (first | (with_reducible refine hold_tru ?_) | wp_step))
    exact wpAny_mono hs (fun b s' h => wpAny_pure ⟨_, rfl, h⟩) fun _ _ e => e
end
end NcCM
namespace NC
open PySem PySem.Spec PyProof.Rows L2 RZ
section
variable {X : Cx} {R : Rz}
/-! x += e where the class of x has __iadd__, which returns an object -/
def dAugO (i : Nat) (C : Addr) (sp : DSp) (te : TD) : TSd := fun D ρ M => lk ρ i fun x => te ρ M fun y M1 => match x with
  | .ref a => (∃ dx fs, M1 a = some (.ins C dx fs)) ∧ sp [.ref a, y] M1 (fun z M2 => ∃ b, z = .ref b ∧ D.nx (put ρ i (.ref b)) M2) (fun _ _ _ => False)
  | _ => False
theorem pip_own {C : Addr} {k : Nat} {x1 x2 : Str} {sp : Sp} {f : Addr} {fd : FuncData} (hc : PySem.W.selfFirst X.K C = true) (hm : Meth X.K C "__iadd__" f) (F : FnOk X.prog X.w X.K X.mg X.base (L2N.CX X.prog X.w) k f fd [x1, x2] sp) (hr : Room k X.A) (hb : L2.Binds X.K fd [x1, x2] []) :
    PIp X .Add (fun x y H Q => ∃ a dx fs, x = .ref a ∧ H a = some (.ins C dx fs) ∧ sp [.ref a, y] H (fun z H' => ∃ b, z = .ref b ∧ Q (.ref b) H') E0) := by
  intro pins s σ H x y v u Q I rx ry h
  obtain ⟨a, dx, fs, rfl, ea, h⟩ := h
  obtain rfl : v = Value.ref a := rx
  obtain ⟨mA, O, _, _, _, _⟩ := ins_get I.hok ea
  obtain ⟨od, J, _⟩ := O.look
  refine NcCM.inplace_own I.kIn J hc hm.at_ hm.fn ?_
  refine wpAny_mono (run_fn (us := [.ref a, u]) (vs := [.ref a, y]) (Q := fun z H' => ∃ b, z = .ref b ∧ Q (.ref b) H') F hr hb .nil passLN I (.cons rfl (.cons ry .nil)) h) (fun r s' hq => ?_) fun _ _ e => e
  obtain ⟨z, H', I', rz, b, rfl, q⟩ := hq
  obtain rfl : r = Value.ref b := rz
  exact ⟨.ref b, H', I', rfl, q⟩
theorem ds_augO {C : Addr} {k i : Nat} {x x1 x2 : Str} {sp : DSp} {e : Expr} {te : TD} {pos' pos : Pos} (hc : PySem.W.selfFirst X.K C = true) (F : Fm X.prog X.w X.K X.mg X.base k C "__iadd__" [x1, x2] sp) (hr : Room k X.A) (hN : X.N.Nodup) (hi : X.N[i]? = some x) (hx : Loc X.env.scope x) (he : DE X R e te)
    (hf : X.fn x = true ∨ X.env.scope.names.lookup x = some .local := by first | exact .inl rfl | exact .inr rfl) : DS X R (.AugAssign (.Name x pos') .Add e pos) (dAugO i C sp te) := by
  obtain ⟨f, fd, F1, hm, hb⟩ := F
  obtain ⟨g1, p1, k1⟩ := he.ex
  refine ⟨_, ps_aug hN hi hx p1 (pip_own hc hm F1 hr hb) hf, fun Z σ H M ρ D D' s en l k t => ?_⟩
  obtain ⟨p, e1, t⟩ := lk_get t
  obtain ⟨v, e2, a⟩ := en.2 i p e1
  refine ⟨v, e2, k1 Z σ H M ρ _ _ s en l t fun y u Z1 M1 H1 s1 r1 a1 q1 => ?_⟩
  cases p <;> first | exact q1.elim | skip
  rename_i b
  obtain rfl : v = V.ref b := a
  obtain ⟨⟨dx, fs, hM⟩, q1⟩ := q1
  obtain ⟨vs, hv, hF⟩ := s1.m _ _ hM
  refine ⟨b, dx, vs, rfl, hv, Z1, M1, [.ref b, y], _, _, s1, ⟨_, _, rfl, rfl, u, [], rfl, a1, rfl⟩, rfl, q1, fun z w Z2 M2 H2 s2 r2 a2 q2 => ?_, fun cls fs d Z3 M3 H3 s3 r3 x3 q3 => q3.elim⟩
  obtain ⟨c, rfl, q2⟩ := q2
  exact ⟨c, a2, k.nx _ _ Z2 M2 H2 s2 (r1.trans r2) ((en.mono (r1.trans r2).z).put (v := .ref c) (p := .ref c) rfl i) q2⟩
/-! bool(x) where the class of x has __bool__ -/
def boolOW (C : Addr) (sp : DSp) : WL := fun ps M Φ => match ps with
  | [.ref a] => (∃ dx fs, M a = some (.ins C dx fs)) ∧ sp [.ref a] M (fun z M2 => ∃ b, z = .bl b ∧ Φ (.bl b) M2) (fun _ _ _ => False)
  | _ => False
theorem call_boolO {C : Addr} {k : Nat} {x1 : Str} {sp : Sp} {f : Addr} {fd : FuncData} (hm : Meth X.K C "__bool__" f) (F : FnOk X.prog X.w X.K X.mg X.base (L2N.CX X.prog X.w) k f fd [x1] sp) (hr : Room (k + 2) X.A) (hb : L2.Binds X.K fd [x1] []) :
    CallR X (.type "bool") (fun xs H Q => ∃ a dx fs, xs = [.ref a] ∧ H a = some (.ins C dx fs) ∧ sp [.ref a] H (fun z H' => ∃ b, z = .bl b ∧ Q (.bl b) H') E0) := by
  intro pins s σ H xs us Q I r h
  obtain ⟨a, dx, fs, rfl, ea, h⟩ := h
  obtain rfl := Vals.ref1 r
  obtain ⟨mA, O, _, _, _, _⟩ := ins_get I.hok ea
  obtain ⟨od, J, _⟩ := O.look
  refine callType_newIn PySem.F.called_bool PySem.F.newNe_bool (PySem.F.typeCall_bool_1 _) (PySem.F.newCall_bool_1 _) (fun obj => PySem.F.args_object_init_2 obj _) PySem.F.entry_bool_new (NcCM.meets_bool a) ?_
  refine NcCM.truthy_own I.kIn J hm.at_ hm.fn ?_
  have b := hb s [.ref a] I.kIn rfl
  rw [List.append_nil] at b
  refine wpAny_call (codeAny_mono (F.run X.A.in1.in1 X.stack s H ⟨[.ref a], []⟩ [.ref a] [.ref a] (fun z H' => ∃ b, z = .bl b ∧ Q (.bl b) H') E0 hr.in1.in1 I.env0.in1.in1 b (.cons rfl .nil) h) fun r s' hq => ?_)
  cases r with
  | error er => exact False.elim (passLNx pins σ H s er s' (I.wish _) hq)
  | ok fl =>
    cases fl with
    | ret u =>
      obtain ⟨v, H', I3, rv, b, rfl, q3⟩ := I.after hq
      obtain rfl : u = Value.bool b := rv
      exact ⟨rfl, .bl b, H', I3, rfl, q3⟩
    | next => exact False.elim hq
    | brk => exact False.elim hq
    | cont => exact False.elim hq
theorem cd_boolO {C : Addr} {k : Nat} {x1 : Str} {sp : DSp} (F : Fm X.prog X.w X.K X.mg X.base k C "__bool__" [x1] sp) (hr : Room (k + 2) X.A) : CallD X (.type "bool") (boolOW C sp) := by
  obtain ⟨f, fd, F1, hm, hb⟩ := F
  refine ⟨_, call_boolO hm F1 hr hb, fun Z M H ps vs Φ Q s a t k => ?_⟩
  match ps, t with
  | [.ref b], t =>
    obtain ⟨v, e, a1⟩ := isL_one a
    obtain rfl : v = V.ref b := a1
    obtain ⟨⟨dx, fs, hM⟩, q1⟩ := t
    obtain ⟨us, hv, hF⟩ := s.m _ _ hM
    refine ⟨b, dx, us, e, hv, Z, M, [.ref b], _, _, s, ⟨_, [], rfl, rfl, rfl⟩, rfl, q1, fun z w Z2 M2 H2 s2 r2 a2 q2 => ?_, fun cls fs d Z3 M3 H3 s3 r3 x3 q3 => q3.elim⟩
    obtain ⟨c, rfl, q2⟩ := q2
    exact ⟨c, a2, k (.bl c) (.bl c) Z2 M2 H2 s2 r2 rfl q2⟩
end
end NC

end
section
set_option Elab.async false
set_option linter.all false
set_option maxRecDepth 100000
set_option maxHeartbeats 4000000
namespace NC
open PySem PySem.Spec PyProof.Rows L2 RZ
/-! ### methods and properties as they stand behind the top -/
def Md (K : PySem.W.Frag) (C : Addr) (x q : Str) (st : Stmt) : Prop := ∃ fd, FunD K x q (defArgs st) (defBody st) (defScope st) [] [] (He.ma K C x) fd ∧ Meth K C x (He.ma K C x)
def Id (K : PySem.W.Frag) (C : Addr) (x q : Str) (st : Stmt) : Prop := ∃ fd, FunD K x q (defArgs st) (defBody st) (defScope st) [] [] (He.ma K C x) fd ∧ L2.Mk K C (He.ma K C x)
def Pd (K : PySem.W.Frag) (C : Addr) (x q : Str) (st : Stmt) : Prop := ∃ p g fd, FunD K x q (defArgs st) (defBody st) (defScope st) [] [] g fd ∧ PropOf K C x p g
section
variable {P : Program} {w : World} {K : PySem.W.Frag} {mg : Str → Option Value} {base : Heap} {C : Addr} {x q : Str} {st : Stmt} {N ps : List Str} {k : Nat} {sp : DSp}
abbrev BodyOk (P : Program) (w : World) (K : PySem.W.Frag) (mg : Str → Option Value) (base : Heap) (N : List Str) (q : Str) (st : Stmt) (k : Nat) (ps : List Str) (sp : DSp) : Prop :=
  ∀ (f : Addr) (cdv : Value) (A : Around) (outer : List Env) (s : Shared) (H : Hp) (E : XK) (Ψ : XP), Room k (A.deeper (envOfC q (defScope st) s.heap.objs.size f cdv)) → L2N.Takes (cxOf (L2N.CX P w) P w K mg base N q (defScope st) f cdv A outer s H E) (RzOf E Ψ).W →
      ∃ t, DSs (cxOf (L2N.CX P w) P w K mg base N q (defScope st) f cdv A outer s H E) (RzOf E Ψ) (defBody st) t ∧ ∀ ds M Φ, ds.length = ps.length → sp ds M Φ Ψ → t (EndsR Φ) (startR N ds) M
abbrev BindsOk (x q : Str) (st : Stmt) (ps : List Str) : Prop := ∀ (kV doc pm : Value) (an : Option Addr) (cdv ct : Value) (us : List Value), us.length = ps.length → bindArgs (PySem.W.fnOf x q (defArgs st) (defBody st) (defScope st) .none kV doc pm an cdv ct) ⟨us, []⟩ = pure (ps.zip us)
theorem fm_of (D : Md K C x q st) (S : FnScope N ps (defScope st)) (hb : BindsOk x q st ps) (hbody : BodyOk P w K mg base N q st k ps sp) : Fm P w K mg base (k + 1) C x ps sp := by
  obtain ⟨fd, F, hm⟩ := D
  exact ⟨_, fd, fnp_of F S (hbody _), hm, F.bindsN hb⟩
theorem fi_of (D : Id K C x q st) (S : FnScope N ps (defScope st)) (hb : BindsOk x q st ps) (hbody : BodyOk P w K mg base N q st k ps sp) : Fi P w K mg base (k + 1) C ps sp := by
  obtain ⟨fd, F, hm⟩ := D
  exact ⟨_, fd, fnp_of F S (hbody _), hm, F.bindsN hb⟩
theorem fp_of {y : Str} (D : Pd K C x q st) (S : FnScope N [y] (defScope st)) (hb : BindsOk x q st [y]) (hbody : BodyOk P w K mg base N q st k [y] sp) : Fp P w K mg base (k + 1) C x y sp := by
  obtain ⟨p, g, fd, F, hp⟩ := D
  exact ⟨p, g, fd, fnp_of F S (hbody _), hp, F.bindsN hb⟩
end
/-- a module's tuple of texts -/
theorem de_gtup {X : Cx} {R : Rz} {x : Str} {C : Addr} {zs : List Str} {pos : Pos} (hg : Gl X x) (hm : X.mg x = some (.ref C)) (ht : ∀ H, SqT X.K H C (zs.map V.str)) (hd : (x == ("__debug__" : Str)) = false := by decide) : DE X R (.Name x pos) (dC (.tup (zs.map P.str))) :=
  de_cst (pe_glob (v := .ref C) hg hm rfl hd) fun Z => ⟨C, _, rfl, ht Z, IsL.of_strs⟩
/-! ### the head: properties -/
def propAd (K : PySem.W.Frag) (C : Addr) (m : Str) : Addr := match PySem.W.recIn K (He.ma K C m) "property" with
  | some (.ref g :: _) => g
  | _ => 0
def propB (K : PySem.W.Frag) (C : Addr) (m q : Str) : Bool :=
  decide (PySem.W.findIn K (.ref C) m = some (some (.ref (He.ma K C m)))) && (decide (PySem.W.specialIn K (.ref (He.ma K C m)) "__get__" = some (some (.builtin "property.__get__"))) && (decide (PySem.W.takesIn K (.ref (He.ma K C m)) = some true) &&
  ((match PySem.W.recIn K (He.ma K C m) "property" with
  | some (.ref g :: _) => true
  | _ => false) && (PySem.W.keepIn K (.ref (propAd K C m)) && (match K.lookup (propAd K C m) with
  | some ⟨_, _, .func fd, _⟩ => PySem.W.codeIn K fd.code q && (He.dflB K fd.defaults [] && (He.kwdB K fd.kwdefaults [] && fd.closure.isEmpty))
  | _ => false)))))
theorem propB_ok {K : PySem.W.Frag} {C : Addr} {m q : Str} {st : Stmt} (h : propB K C m q = true) (v : fnV K (propAd K C m) = (some (m, q, defArgs st, FuncBody.stmts (defBody st), defScope st, mainGlobals, [], builtinsNs) : FnV)) : Pd K C m q st := by
  obtain ⟨h1, h⟩ := He.ba h
  obtain ⟨h2, h⟩ := He.ba h
  obtain ⟨h3, h⟩ := He.ba h
  obtain ⟨h4, h⟩ := He.ba h
  obtain ⟨h5, h6⟩ := He.ba h
  refine ⟨He.ma K C m, propAd K C m, ?_⟩
  have hrec : ∃ rest, PySem.W.recIn K (He.ma K C m) "property" = some (.ref (propAd K C m) :: rest) := by
    unfold propAd
    split at h4
    · rename_i g rest e
      exact ⟨rest, by rw [e]⟩
    · cases h4
  unfold fnV at v
  split at h6
  · rename_i oc od fd osl ho
    rw [ho] at v
    obtain ⟨n1, n2, n3, n4, n5, n6, n7, n8, n9, n10, n11, n12, n13, n14, n15⟩ := fd
    dsimp only at h6 v
    obtain ⟨k1, h6⟩ := He.ba h6
    obtain ⟨k2, h6⟩ := He.ba h6
    obtain ⟨k3, k4⟩ := He.ba h6
    have e7 : n7 = [] := List.isEmpty_iff.mp k4
    subst e7
    simp only [Option.some.injEq, Prod.mk.injEq, List.map_nil, and_true, true_and] at v
    obtain ⟨rfl, rfl, rfl, rfl, rfl, rfl, rfl⟩ := v
    exact ⟨_, ⟨⟨oc, od, n8, n9, n10, n11, n12, n13, n14, osl, rfl, ho, k1, He.dflB_ok k2, He.kwdB_ok k3⟩, h5⟩, ⟨of_decide_eq_true h1, of_decide_eq_true h2, of_decide_eq_true h3, hrec⟩⟩
  · cases h6
end NC

end
section
set_option Elab.async false
set_option linter.all false
set_option maxRecDepth 100000
set_option maxHeartbeats 4000000
namespace NC
open PySem PySem.Spec PyProof.Rows L2 RZ
/-! ### boards -/
theorem ite_n {c : Prop} [Decidable c] {a b : Prop} (h : ¬c) (k : b) : if c then a else b := by rw [if_neg h]; exact k
theorem ite_y {c : Prop} [Decidable c] {a b : Prop} (h : c) (k : a) : if c then a else b := by rw [if_pos h]; exact k
/-- int(a text) -/
def intSW : WL := fun ps M Φ => match ps with
  | [.str z] => ∃ n, PySem.intText? z = some n ∧ z.length ≤ 640 ∧ Φ (.int n) M
  | _ => False
theorem cd_intS {X : Cx} : CallD X (.type "int") intSW := by
  refine ⟨_, call_int_str, fun Z M H ps vs Φ Q s a t k => ?_⟩
  match ps, t with
  | [.str z], t =>
    obtain ⟨v, e, b⟩ := isL_one a
    have b : v = .str z := b
    obtain ⟨n, h1, h2, q⟩ := t
    exact ⟨z, n, by rw [e, b], h1, h2, k _ _ Z M H s .refl (show Is X.K Z (.int _) (.int _) from rfl) q⟩
/-- the colours that the next number can have -/
def freeL (every : List (List Int)) (z : Str) : List Nat := if z.length < 16 then (List.range 4).filter fun i => goesOn every z (cs i) else []
def shownP (every : List (List Int)) (z : Str) : P := .tup [.str z, optP (oneCol every z), .tup ((freeL every z).map fun i : Nat => P.int (i : Int))]
def bdG (f e l n p : P) : List (Str × P) := [("frame", f), ("every", e), ("lots", l), ("now", n), ("past", p)]
def bd1 (f : P) : List (Str × P) := [("frame", f)]
def bd2 (f e : P) : List (Str × P) := [("frame", f), ("every", e)]
def bd3 (f e l : P) : List (Str × P) := [("frame", f), ("every", e), ("lots", l)]
def bd4 (f e l n : P) : List (Str × P) := [("frame", f), ("every", e), ("lots", l), ("now", n)]
section
variable {f e l n p q : P}
theorem bd_frame : (bdG f e l n p).lookup ("frame" : Str) = some f := by with_unfolding_all rfl
theorem bd_every : (bdG f e l n p).lookup ("every" : Str) = some e := by with_unfolding_all rfl
theorem bd_lots : (bdG f e l n p).lookup ("lots" : Str) = some l := by with_unfolding_all rfl
theorem bd_now : (bdG f e l n p).lookup ("now" : Str) = some n := by with_unfolding_all rfl
theorem bd_past : (bdG f e l n p).lookup ("past" : Str) = some p := by with_unfolding_all rfl
theorem bd_put_now : putP ("now" : Str) q (bdG f e l n p) = bdG f e l q p := by with_unfolding_all rfl
theorem bd_put_past : putP ("past" : Str) q (bdG f e l n p) = bdG f e l n q := by with_unfolding_all rfl
theorem bd_no_renew : (bdG f e l n p).lookup ("renew" : Str) = none := by with_unfolding_all rfl
theorem bd_no_undo : (bdG f e l n p).lookup ("undo" : Str) = none := by with_unfolding_all rfl
theorem bd_length : (bdG f e l n p).length = 5 := rfl
theorem ini1 : putP ("frame" : Str) f [] = bd1 f := rfl
theorem ini2 : putP ("every" : Str) e (bd1 f) = bd2 f e := by with_unfolding_all rfl
theorem ini3 : putP ("lots" : Str) l (bd2 f e) = bd3 f e l := by with_unfolding_all rfl
theorem ini4 : putP ("now" : Str) n (bd3 f e l) = bd4 f e l n := by with_unfolding_all rfl
theorem ini5 : putP ("past" : Str) p (bd4 f e l n) = bdG f e l n p := by with_unfolding_all rfl
theorem ini_e2 : (bd2 f e).lookup ("every" : Str) = some e := by with_unfolding_all rfl
theorem ini_e3 : (bd3 f e l).lookup ("every" : Str) = some e := by with_unfolding_all rfl
theorem ini_l3 : (bd3 f e l).lookup ("lots" : Str) = some l := by with_unfolding_all rfl
theorem ini_n1 : (bd1 f).length = 1 := rfl
theorem ini_n2 : (bd2 f e).length = 2 := rfl
theorem ini_n3 : (bd3 f e l).length = 3 := rfl
theorem ini_n4 : (bd4 f e l n).length = 4 := rfl
end
theorem ex_ins {dx : Addr} {F : List (Str × P)} {Q : Addr → List (Str × P) → Prop} : (∃ dx' fs', (dx = dx' ∧ F = fs') ∧ Q dx' fs') ↔ Q dx F :=
  ⟨fun ⟨_, _, ⟨e1, e2⟩, q⟩ => by subst e1 e2; exact q, fun q => ⟨_, _, ⟨rfl, rfl⟩, q⟩⟩
/-- what a board's fields hold -/
def bdF (L : List (List Int)) (lots : List (List (List Int))) (z : Str) (past : List Str) : List (Str × P) :=
  bdG (sysP L) (.lst ((ansU L 16 false).map tupI)) (.lst (lots.map lotP)) (shownP (ansU L 16 false) z) (.tup (past.map (shownP (ansU L 16 false))))
theorem colours4 : [Str.ofString "0", Str.ofString "1", Str.ofString "2", Str.ofString "3"] = (List.range 4).map cs := by decide +kernel
theorem int_cs : ∀ i : Fin 4, PySem.intText? (cs i.val) = some (i.val : Int) := by decide +kernel
theorem int_cs' {i : Nat} (h : i < 4) : PySem.intText? (cs i) = some (i : Int) := int_cs ⟨i, h⟩
theorem fit_optP (r : Option (List Int)) : fitP (optP r) = true := by
  cases r with
  | none => rfl
  | some row => exact fit_tupI row
theorem dp_optP (r : Option (List Int)) : dpP (optP r) ≤ 1 := by
  cases r with
  | none => exact Nat.zero_le _
  | some row => exact Nat.le_of_eq (dp_tupI row)
theorem ok_of {p : P} (f : fitP p = true) (d : dpP p ≤ 50) : okP p = true := by
  unfold okP
  rw [f, decide_eq_true (by omega)]; rfl
theorem fit_shown {every : List (List Int)} {z : Str} (h : fitP (.str z) = true) : fitP (shownP every z) = true := by
  show (fitP (.str z) && (fitP (optP _) && (fitPs ((freeL every z).map fun i : Nat => P.int (i : Int)) && true))) = true
  rw [h, fit_optP, fitPs_of fun x hx => by
    obtain ⟨i, _, rfl⟩ := List.mem_map.mp hx
    rfl]
  rfl
theorem dp_shown (every : List (List Int)) (z : Str) : dpP (shownP every z) ≤ 3 := by
  show max 0 (max (dpP (optP _)) (max (dpPs ((freeL every z).map fun i : Nat => P.int (i : Int)) + 1) 0)) + 1 ≤ 3
  have h1 := dp_optP (oneCol every z)
  have h2 : dpPs ((freeL every z).map fun i : Nat => P.int (i : Int)) ≤ 0 := dpPs_of fun x hx => by
    obtain ⟨i, _, rfl⟩ := List.mem_map.mp hx
    exact Nat.le_refl _
  omega
theorem sOk_fit {z : Str} (h : fitP (.str z) = true) : fitP (.str z) = true := h
theorem goes_one_all {every : List (List Int)} {z : Str} {i : Nat} (hi : i < 10) (hp : ∀ row ∈ every, row ≠ [] ∧ ∀ x ∈ row, 1 ≤ x) (hz : oneCol every z = none) : (oneCol every (z ++ cs i)).isNone = goesOn every z (cs i) := by
  have hl := cs_len hi
  have key : ∀ row ∈ every, mono (z ++ cs i) row = clash z (cs i) row := fun row hr => by
    obtain ⟨hne, h1⟩ := hp row hr
    by_cases ht : Top1 row ((z.length : Int) + 1)
    · exact mono_clash hl h1 ht
    · have e1 : clash z (cs i) row = false := by
        unfold clash
        rw [show top1 ((z.length : Int) + 1) row = false from Bool.eq_false_iff.mpr fun q => ht (top1_iff.mp q), Bool.false_and]
      rw [e1]
      by_cases hall : ∀ x ∈ row, x ≤ (z.length : Int)
      · have e : mono (z ++ cs i) row = mono z row := by
          unfold mono
          rw [List.all_eq_true.mpr fun x hx => decide_eq_true (by have := hall x hx; rw [app_len, hl]; omega), List.all_eq_true.mpr fun x hx => decide_eq_true (hall x hx)]
          rw [List.map_congr_left fun x hx => sg_left (h1 x hx) (hall x hx)]
        rw [e]
        unfold oneCol at hz
        exact Bool.eq_false_iff.mpr (List.find?_eq_none.mp hz row hr)
      · refine Bool.eq_false_iff.mpr fun q => ?_
        unfold mono at q
        have hle : ∀ x ∈ row, x ≤ (z.length : Int) + 1 := fun x hx => by
          have := of_decide_eq_true (List.all_eq_true.mp (Bool.and_eq_true_iff.mp q).1 x hx)
          rw [app_len, hl] at this
          omega
        obtain ⟨x, hx⟩ := Classical.not_forall.mp hall
        obtain ⟨hx, hx2⟩ := Classical.not_imp.mp hx
        have := hle x hx
        have ex : x = (z.length : Int) + 1 := by omega
        exact ht ⟨ex ▸ hx, hle⟩
  unfold oneCol goesOn
  rw [Bool.eq_iff_iff, Option.isNone_iff_eq_none, List.find?_eq_none, Bool.not_eq_true', List.any_eq_false]
  constructor
  · intro h row hr; rw [← key row hr]; exact h row hr
  · intro h row hr; rw [key row hr]; exact h row hr
end NC

end
section
set_option Elab.async false
set_option linter.all false
set_option maxRecDepth 100000
set_option maxHeartbeats 4000000
namespace NC
open PySem PySem.Spec PyProof.Rows L2 RZ
def top (i : Nat) : Stmt := PySem.Challenge.pw_nocolouring_k16_whole_colourings_counted.main.body.getD i (.Pass ⟨0, 0, 0, 0⟩)
def clsBody : Stmt → List Stmt
  | .ClassDef _ _ _ b _ _ _ _ _ _ _ => b
  | _ => []
abbrev PR : Program := PySem.Challenge.rw_nocolouring_k16_whole_colourings_counted.prog
abbrev tmSt : Stmt := (clsBody (top 8)).getD 0 (.Pass ⟨0, 0, 0, 0⟩)
theorem tmSt_ok : NcTM.TmSt tmSt := by
  refine ⟨⟨_, _, _, _, _, _, _, _, _, _, _, _, rfl, fun env he => ⟨?_, ?_, ?_, _, rfl⟩⟩, rfl, rfl, rfl, rfl, rfl, by decide +kernel, rfl, rfl, rfl, fun q kV doc pm cdv ct an cc x u => ?_⟩
  · obtain ⟨sc, _⟩ := env; cases he; rfl
  · obtain ⟨sc, _⟩ := env; cases he; rfl
  · obtain ⟨sc, _⟩ := env; cases he; rfl
  · with_unfolding_all rfl
abbrev s__wall : Stmt := top 0
theorem sc__wall : FnScope ["k"] ["k"] (defScope s__wall) := ⟨rfl, rfl, rfl, by decide +kernel, rfl, by decide +kernel, by decide +kernel⟩
abbrev s_is_within : Stmt := top 13
theorem sc_is_within : FnScope ["value", "low", "high"] ["value", "low", "high"] (defScope s_is_within) := ⟨rfl, rfl, rfl, by decide +kernel, rfl, by decide +kernel, by decide +kernel⟩
abbrev s_is_equation : Stmt := top 14
theorem sc_is_equation : FnScope ["value", "entry"] ["value"] (defScope s_is_equation) := ⟨rfl, rfl, rfl, by decide +kernel, rfl, by decide +kernel, by decide +kernel⟩
abbrev s_is_system_value : Stmt := top 15
theorem sc_is_system_value : FnScope ["value", "line"] ["value"] (defScope s_is_system_value) := ⟨rfl, rfl, rfl, by decide +kernel, rfl, by decide +kernel, by decide +kernel⟩
abbrev s_need_system : Stmt := top 16
theorem sc_need_system : FnScope ["value"] ["value"] (defScope s_need_system) := ⟨rfl, rfl, rfl, by decide +kernel, rfl, by decide +kernel, by decide +kernel⟩
abbrev s_comes_to_nought : Stmt := top 17
theorem sc_comes_to_nought : FnScope ["system", "numbers", "line", "entry", "number"] ["system", "numbers"] (defScope s_comes_to_nought) := ⟨rfl, rfl, rfl, by decide +kernel, rfl, by decide +kernel, by decide +kernel⟩
abbrev s_is_colouring_value : Stmt := top 23
theorem sc_is_colouring_value : FnScope ["value", "most", "sign"] ["value", "most"] (defScope s_is_colouring_value) := ⟨rfl, rfl, rfl, by decide +kernel, rfl, by decide +kernel, by decide +kernel⟩
abbrev s_need_colouring : Stmt := top 24
theorem sc_need_colouring : FnScope ["value"] ["value"] (defScope s_need_colouring) := ⟨rfl, rfl, rfl, by decide +kernel, rfl, by decide +kernel, by decide +kernel⟩
abbrev s_need_unlike : Stmt := top 25
theorem sc_need_unlike : FnScope ["value"] ["value"] (defScope s_need_unlike) := ⟨rfl, rfl, rfl, by decide +kernel, rfl, by decide +kernel, by decide +kernel⟩
abbrev s_need_number : Stmt := top 26
theorem sc_need_number : FnScope ["value", "low", "high"] ["value", "low", "high"] (defScope s_need_number) := ⟨rfl, rfl, rfl, by decide +kernel, rfl, by decide +kernel, by decide +kernel⟩
abbrev s_need_few : Stmt := top 27
theorem sc_need_few : FnScope ["system"] ["system"] (defScope s_need_few) := ⟨rfl, rfl, rfl, by decide +kernel, rfl, by decide +kernel, by decide +kernel⟩
abbrev s_all_answers : Stmt := top 28
theorem sc_all_answers : FnScope ["system", "most", "unlike", "rows", "column", "found", "row", "number"] ["system", "most", "unlike"] (defScope s_all_answers) := ⟨rfl, rfl, rfl, by decide +kernel, rfl, by decide +kernel, by decide +kernel⟩
abbrev s_in_one_colour : Stmt := top 29
theorem sc_in_one_colour : FnScope ["every", "colouring", "row", "number"] ["every", "colouring"] (defScope s_in_one_colour) := ⟨rfl, rfl, rfl, by decide +kernel, rfl, by decide +kernel, by decide +kernel⟩
abbrev s_lots_by : Stmt := top 30
theorem sc_lots_by : FnScope ["every", "found", "most", "some", "row", "lot"] ["every"] (defScope s_lots_by) := ⟨rfl, rfl, rfl, by decide +kernel, rfl, by decide +kernel, by decide +kernel⟩
abbrev s_goes_on : Stmt := top 31
theorem sc_goes_on : FnScope ["lots", "colouring", "colour", "lot", "number"] ["lots", "colouring", "colour"] (defScope s_goes_on) := ⟨rfl, rfl, rfl, by decide +kernel, rfl, by decide +kernel, by decide +kernel⟩
abbrev s_first_avoiding : Stmt := top 32
theorem sc_first_avoiding : FnScope ["lots", "colours", "many", "line", "colouring", "colour"] ["lots", "colours", "many"] (defScope s_first_avoiding) := ⟨rfl, rfl, rfl, by decide +kernel, rfl, by decide +kernel, by decide +kernel⟩
abbrev s_count_by : Stmt := top 33
theorem sc_count_by : FnScope ["lots", "colours", "many", "rows", "turn", "row", "colour"] ["lots", "colours", "many"] (defScope s_count_by) := ⟨rfl, rfl, rfl, by decide +kernel, rfl, by decide +kernel, by decide +kernel⟩
abbrev s_one_colour : Stmt := top 34
theorem sc_one_colour : FnScope ["system", "colouring", "unlike"] ["system", "colouring", "unlike"] (defScope s_one_colour) := ⟨rfl, rfl, rfl, by decide +kernel, rfl, by decide +kernel, by decide +kernel⟩
abbrev s_avoiding : Stmt := top 35
theorem sc_avoiding : FnScope ["system", "colours", "many", "unlike"] ["system", "colours", "many", "unlike"] (defScope s_avoiding) := ⟨rfl, rfl, rfl, by decide +kernel, rfl, by decide +kernel, by decide +kernel⟩
abbrev s_count_avoiding : Stmt := top 36
theorem sc_count_avoiding : FnScope ["system", "colours", "many", "unlike"] ["system", "colours", "many", "unlike"] (defScope s_count_avoiding) := ⟨rfl, rfl, rfl, by decide +kernel, rfl, by decide +kernel, by decide +kernel⟩
abbrev s_shown : Stmt := top 40
theorem sc_shown : FnScope ["every", "lots", "colouring", "some", "free", "colour"] ["every", "lots", "colouring"] (defScope s_shown) := ⟨rfl, rfl, rfl, by decide +kernel, rfl, by decide +kernel, by decide +kernel⟩
abbrev s_l_deck : Stmt := top 43
theorem sc_l_deck : FnScope ["cell", "turn"] ["cell", "turn"] (defScope s_l_deck) := ⟨rfl, rfl, rfl, by decide +kernel, rfl, by decide +kernel, by decide +kernel⟩
abbrev s_l_pick : Stmt := top 44
theorem sc_l_pick : FnScope ["deck", "size", "found", "number"] ["deck", "size"] (defScope s_l_pick) := ⟨rfl, rfl, rfl, by decide +kernel, rfl, by decide +kernel, by decide +kernel⟩
abbrev s_l_known : Stmt := top 45
theorem sc_l_known : FnScope ["t"] [] (defScope s_l_known) := ⟨rfl, rfl, rfl, by decide +kernel, rfl, by decide +kernel, by decide +kernel⟩
abbrev s_l_system : Stmt := top 46
theorem sc_l_system : FnScope ["deck", "wide", "high", "way", "most", "lines", "turn", "line", "last", "column"] ["deck", "wide", "high"] (defScope s_l_system) := ⟨rfl, rfl, rfl, by decide +kernel, rfl, by decide +kernel, by decide +kernel⟩
abbrev s_l_on_board : Stmt := top 47
theorem sc_l_on_board : FnScope ["board", "text", "found"] ["board", "text"] (defScope s_l_on_board) := ⟨rfl, rfl, rfl, by decide +kernel, rfl, by decide +kernel, by decide +kernel⟩
abbrev s_l_grown_right : Stmt := top 48
theorem sc_l_grown_right : FnScope ["system_so", "colours", "many", "rows", "board", "number", "longer", "text", "clash", "good", "free", "colour", "told"] ["system_so", "colours", "many"] (defScope s_l_grown_right) := ⟨rfl, rfl, rfl, by decide +kernel, rfl, by decide +kernel, by decide +kernel⟩
abbrev s_law : Stmt := top 49
theorem sc_law : FnScope ["script", "cell", "deck", "system_so", "s", "w", "n", "t", "v", "board", "text"] ["script"] (defScope s_law) := ⟨rfl, rfl, rfl, by decide +kernel, rfl, by decide +kernel, by decide +kernel⟩
abbrev s_Board___init__ : Stmt := (clsBody (top 41)).getD 1 (.Pass ⟨0, 0, 0, 0⟩)
theorem sc_Board___init__ : FnScope ["self", "system"] ["self", "system"] (defScope s_Board___init__) := ⟨rfl, rfl, rfl, by decide +kernel, rfl, by decide +kernel, by decide +kernel⟩
abbrev s_Board_renew : Stmt := (clsBody (top 41)).getD 2 (.Pass ⟨0, 0, 0, 0⟩)
theorem sc_Board_renew : FnScope ["self", "colouring"] ["self", "colouring"] (defScope s_Board_renew) := ⟨rfl, rfl, rfl, by decide +kernel, rfl, by decide +kernel, by decide +kernel⟩
abbrev s_Board___iadd__ : Stmt := (clsBody (top 41)).getD 7 (.Pass ⟨0, 0, 0, 0⟩)
theorem sc_Board___iadd__ : FnScope ["self", "colouring"] ["self", "colouring"] (defScope s_Board___iadd__) := ⟨rfl, rfl, rfl, by decide +kernel, rfl, by decide +kernel, by decide +kernel⟩
abbrev s_Board_undo : Stmt := (clsBody (top 41)).getD 12 (.Pass ⟨0, 0, 0, 0⟩)
theorem sc_Board_undo : FnScope ["self"] ["self"] (defScope s_Board_undo) := ⟨rfl, rfl, rfl, by decide +kernel, rfl, by decide +kernel, by decide +kernel⟩
abbrev s_Board___bool__ : Stmt := (clsBody (top 41)).getD 18 (.Pass ⟨0, 0, 0, 0⟩)
theorem sc_Board___bool__ : FnScope ["self"] ["self"] (defScope s_Board___bool__) := ⟨rfl, rfl, rfl, by decide +kernel, rfl, by decide +kernel, by decide +kernel⟩
abbrev s_Board_clash : Stmt := (clsBody (top 41)).getD 10 (.Pass ⟨0, 0, 0, 0⟩)
theorem sc_Board_clash : FnScope ["self"] ["self"] (defScope s_Board_clash) := ⟨rfl, rfl, rfl, by decide +kernel, rfl, by decide +kernel, by decide +kernel⟩
abbrev s_Board_free : Stmt := (clsBody (top 41)).getD 11 (.Pass ⟨0, 0, 0, 0⟩)
theorem sc_Board_free : FnScope ["self"] ["self"] (defScope s_Board_free) := ⟨rfl, rfl, rfl, by decide +kernel, rfl, by decide +kernel, by decide +kernel⟩
structure Top (K : PySem.W.Frag) (mg : Str → Option Value) : Prop where
  m_ValueError : mg "ValueError" = none
  m_abs : mg "abs" = none
  m_all : mg "all" = none
  m_bool : mg "bool" = none
  m_enumerate : mg "enumerate" = none
  m_int : mg "int" = none
  m_isinstance : mg "isinstance" = none
  m_len : mg "len" = none
  m_list : mg "list" = none
  m_max : mg "max" = none
  m_range : mg "range" = none
  m_set : mg "set" = none
  m_sorted : mg "sorted" = none
  m_str : mg "str" = none
  m_sum : mg "sum" = none
  m_super : mg "super" = none
  m_tuple : mg "tuple" = none
  m_zip : mg "zip" = none
  c_MOST_EQUATIONS : ∃ t, mg "MOST_EQUATIONS" = some (.int 3 t)
  c_MOST_COLUMNS_systems : ∃ t, mg "MOST_COLUMNS_systems" = some (.int 6 t)
  c_MOST_ENTRY : ∃ t, mg "MOST_ENTRY" = some (.int 9 t)
  c_MOST_SIGNS : ∃ t, mg "MOST_SIGNS" = some (.int 16 t)
  c_MOST_COLUMNS_colourings : ∃ t, mg "MOST_COLUMNS_colourings" = some (.int 4 t)
  c_MOST_COUNTED : ∃ t, mg "MOST_COUNTED" = some (.int 9 t)
  c_MOST_COLOURS : ∃ t, mg "MOST_COLOURS" = some (.int 4 t)
  c_MOST_CALLS : ∃ t, mg "MOST_CALLS" = some (.int 40 t)
  g_ColourError : mg "ColourError" = some (.ref (He.ga K "ColourError"))
  g_InvalidSystem : mg "InvalidSystem" = some (.ref (He.ga K "InvalidSystem"))
  e_InvalidSystem : Exo K mg "InvalidSystem" (He.ga K "InvalidSystem")
  g_InvalidNumber : mg "InvalidNumber" = some (.ref (He.ga K "InvalidNumber"))
  e_InvalidNumber : Exo K mg "InvalidNumber" (He.ga K "InvalidNumber")
  g_InvalidColouring : mg "InvalidColouring" = some (.ref (He.ga K "InvalidColouring"))
  e_InvalidColouring : Exo K mg "InvalidColouring" (He.ga K "InvalidColouring")
  g_InvalidWord : mg "InvalidWord" = some (.ref (He.ga K "InvalidWord"))
  e_InvalidWord : Exo K mg "InvalidWord" (He.ga K "InvalidWord")
  g_NothingToUndo : mg "NothingToUndo" = some (.ref (He.ga K "NothingToUndo"))
  e_NothingToUndo : Exo K mg "NothingToUndo" (He.ga K "NothingToUndo")
  g_TooMany : mg "TooMany" = some (.ref (He.ga K "TooMany"))
  g_Board : mg "Board" = some (.ref (He.ga K "Board"))
  d__wall : Fd K mg "_wall" s__wall
  d_is_within : Fd K mg "is_within" s_is_within
  d_is_equation : Fd K mg "is_equation" s_is_equation
  d_is_system_value : Fd K mg "is_system_value" s_is_system_value
  d_need_system : Fd K mg "need_system" s_need_system
  d_comes_to_nought : Fd K mg "comes_to_nought" s_comes_to_nought
  d_is_colouring_value : Fd K mg "is_colouring_value" s_is_colouring_value
  d_need_colouring : Fd K mg "need_colouring" s_need_colouring
  d_need_unlike : Fd K mg "need_unlike" s_need_unlike
  d_need_number : Fd K mg "need_number" s_need_number
  d_need_few : Fd K mg "need_few" s_need_few
  d_all_answers : Fd K mg "all_answers" s_all_answers
  d_in_one_colour : Fd K mg "in_one_colour" s_in_one_colour
  d_lots_by : Fd K mg "lots_by" s_lots_by
  d_goes_on : Fd K mg "goes_on" s_goes_on
  d_first_avoiding : Fd K mg "first_avoiding" s_first_avoiding
  d_count_by : Fd K mg "count_by" s_count_by
  d_one_colour : Fd K mg "one_colour" s_one_colour
  d_avoiding : Fd K mg "avoiding" s_avoiding
  d_count_avoiding : Fd K mg "count_avoiding" s_count_avoiding
  d_shown : Fd K mg "shown" s_shown
  d_l_deck : Fd K mg "_law_deck" s_l_deck
  d_l_pick : Fd K mg "_law_pick" s_l_pick
  d_l_known : Fd K mg "_law_known" s_l_known
  d_l_system : Fd K mg "_law_system" s_l_system
  d_l_on_board : Fd K mg "_law_on_board" s_l_on_board
  d_l_grown_right : Fd K mg "_law_grown_right" s_l_grown_right
  d_law : Fd K mg "law" s_law
  b_Board : Cls K (He.ga K "Board")
  s_Board : PySem.W.selfFirst K (He.ga K "Board") = true
  n_Board_frame : NoAttr K (He.ga K "Board") "frame"
  n_Board_every : NoAttr K (He.ga K "Board") "every"
  n_Board_lots : NoAttr K (He.ga K "Board") "lots"
  n_Board_now : NoAttr K (He.ga K "Board") "now"
  n_Board_past : NoAttr K (He.ga K "Board") "past"
  i_Board___init__ : Id K (He.ga K "Board") "__init__" "Board.__init__" s_Board___init__
  h_Board_renew : Md K (He.ga K "Board") "renew" "Board.renew" s_Board_renew
  h_Board___iadd__ : Md K (He.ga K "Board") "__iadd__" "Board.__iadd__" s_Board___iadd__
  h_Board_undo : Md K (He.ga K "Board") "undo" "Board.undo" s_Board_undo
  h_Board___bool__ : Md K (He.ga K "Board") "__bool__" "Board.__bool__" s_Board___bool__
  p_Board_clash : Pd K (He.ga K "Board") "clash" "Board.clash" s_Board_clash
  p_Board_free : Pd K (He.ga K "Board") "free" "Board.free" s_Board_free
  c_COLOURS : mg "COLOURS" = some (.ref (He.ga K "COLOURS")) ∧ ∀ H, SqT K H (He.ga K "COLOURS") ([Str.ofString "0", Str.ofString "1", Str.ofString "2", Str.ofString "3"].map V.str)
  t_TooMany : NcTM.TmC PR K mg (He.ga K "TooMany") (He.ma K (He.ga K "TooMany") "__init__") tmSt ∧ XfC K (He.ga K "TooMany")
end NC

end
section
set_option Elab.async false
set_option linter.all false
set_option maxRecDepth 100000
set_option maxHeartbeats 4000000
namespace NC
open PySem PySem.Spec PyProof.Rows L2 RZ
section
variable {Pr : Program} {w : World} {K : PySem.W.Frag} {mg : Str → Option Value} {base : Heap}
def sp_comes_to_nought : DSp := fun ds M Φ Ψ => ∃ L ms, ds = [sysP L, tupI ms] ∧ SysOk L ∧ (∀ m ∈ ms, -(2 ^ 200) < m ∧ m < 2 ^ 200) ∧ Φ (.bl (nought L ms)) M
theorem ok_comes_to_nought (T : Top K mg) : Fx Pr w K mg base 1 "comes_to_nought" ["system", "numbers"] sp_comes_to_nought := by
  refine fx_of T.d_comes_to_nought sc_comes_to_nought (fun _ _ _ _ _ _ us hl => match us, hl with | [_, _], _ => rfl) (fun f cdv A outer s H E Ψ hr tk => ⟨_, (dss_one (ds_ret (de_callB (cd_all rfl) rfl T.m_all (by decide +kernel) (da_cons (de_lc (own := [("line", 2)]) rfl sc_comes_to_nought.nd (di_seq (de_var (pv 0))) (blkOk_by (sc := defScope s_comes_to_nought) (own := [("line", 2)]) (N := ["system", "numbers", "line", "entry", "number"]) (by decide +kernel)) (fun _ _ _ _ _ => (dgc_name (pg_name (i := 2) sc_comes_to_nought.nd rfl (by first | exact Or.inl rfl | exact Or.inr rfl)) (by decide))) (fun _ _ _ _ _ => dts_nil) (fun _ _ _ _ _ => (de_cmp (opd_eq hr.units) (de_callB (cd_sum rfl) rfl T.m_sum (by decide +kernel) (da_cons (de_lc (own := [("entry", 3), ("number", 4)]) rfl sc_comes_to_nought.nd (di_zip rfl T.m_zip (da_cons (de_var (pv 2)) (da_cons (de_var (pv 1)) da_nil))) (blkOk_by (by kernel_rfl)) (fun _ _ _ _ _ => (dgc_tup (n := 2) rfl (dgcs_cons (dgc_name (pg_name (i := 3) sc_comes_to_nought.nd rfl (by first | exact Or.inl rfl | exact Or.inr rfl)) (by decide)) (dgcs_cons (dgc_name (pg_name (i := 4) sc_comes_to_nought.nd rfl (by first | exact Or.inl rfl | exact Or.inr rfl)) (by decide)) dgcs_nil)))) (fun _ _ _ _ _ => dts_nil) (fun _ _ _ _ _ => (de_bin opd_mulI (de_var (pv 3)) (de_var (pv 4))))) da_nil)) de_int (nomark _)))) da_nil)))), ?_⟩)
  intro ds M Φ hn h
  obtain ⟨L, ms, rfl, so, hb, h⟩ := h
  have h := Lt.of h
  have r3 := so.r3
  simp (decide := true) only [startR, exists_and_left, at0, at1, at2, ix30, ix31, ix32, List.set_cons_zero, List.set_cons_succ, Option.some.injEq, MO.lst.injEq, P.int.injEq, P.tup.injEq, P.lst.injEq, exists_eq_left, exists_eq_left', exists_eq, updM_same, updM_updM, reduceCtorEq, List.length_map, List.map_cons, List.map_nil, List.length_cons, List.length_nil, Nat.reduceAdd, Nat.reduceSub, List.replicate_zero, List.replicate_succ, List.cons_append, List.nil_append, List.append_nil, List.append_assoc, Nat.sub_self, true_and, and_true, if_true, Bool.false_eq_true, if_false, dSeq, dNext, dIfS, dRet, dRetN, dAsg, dDrop, dVar, lk, dC, dCons, dNil, dTup, dLst, dLstM, dFz, dBin, dTest, asB, dChain, dTru, truW, dAnd, dOr, dNot, dAndV, dOrV, dNotV, dNeg, dIf, idxW, dNo, dSo, dCut, dCB, dCall, dCall0, int0, intW, isiW, put, gdName, gdSub, gdTup, gdCons, gdNil, dPar, dPar3, dRaise, EndsR, dLc, dLcM, iSeq, iTupD, iLst, iZipD, iEnumD, iRg1, iRg2, iStrD, wipeR, wipeR.unput, dFor, lenW, sqW, lsW, allW, anyW, sumW, tupCW, lstCW, lstCMW, absW, intCW, strCW, eqW, neW, isNonW, notNonW, nonB, addW, addMW, mulLW, inW, cutW, dRev, dAppC, dPop, dLRg1, dLRg2, dSplitC, dJoinC, dIsi2, tyN, isi, Option.isSome_some, Option.isSome_none, deref_int, deref_bl, deref_str, deref_non, deref_tup, deref_lst, ok_int, ok_bl, ok_non, peq_int, Bool.not_true, Bool.not_false, decide_eq_true_eq, true_or, or_true, false_or, or_false, false_and, and_false, not_true_eq_false, not_false_eq_true, Bool.not_eq_true', decide_eq_false_iff_not, ex_ins, dFld, dFldS, dMeth, dMeth0, dMake, dProp, dAugO, boolOW, intSW, MO.ins.injEq, bd_frame, bd_every, bd_lots, bd_now, bd_past, bd_put_now, bd_put_past, bd_no_renew, bd_no_undo, bd_length, ini1, ini2, ini3, ini4, ini5, ini_e2, ini_e3, ini_l3, ini_n1, ini_n2, ini_n3, ini_n4, sysP, tupI]
  refine ⟨line_of (by omega), lc_map (fun l => .bl (decide (dot (match l with | .tup xs => xs.map intOf | _ => []) ms = 0))) (fun l hl k hk => ?_) ?_⟩
  · obtain ⟨l, hl', rfl⟩ := List.mem_map.mp hl
    have hw := so.w l hl'
    have he := so.e l hl'
    have c6 := so.c6
    simp (decide := true) only [startR, exists_and_left, at0, at1, at2, ix30, ix31, ix32, List.set_cons_zero, List.set_cons_succ, Option.some.injEq, MO.lst.injEq, P.int.injEq, P.tup.injEq, P.lst.injEq, exists_eq_left, exists_eq_left', exists_eq, updM_same, updM_updM, reduceCtorEq, List.length_map, List.map_cons, List.map_nil, List.length_cons, List.length_nil, Nat.reduceAdd, Nat.reduceSub, List.replicate_zero, List.replicate_succ, List.cons_append, List.nil_append, List.append_nil, List.append_assoc, Nat.sub_self, true_and, and_true, if_true, Bool.false_eq_true, if_false, dSeq, dNext, dIfS, dRet, dRetN, dAsg, dDrop, dVar, lk, dC, dCons, dNil, dTup, dLst, dLstM, dFz, dBin, dTest, asB, dChain, dTru, truW, dAnd, dOr, dNot, dAndV, dOrV, dNotV, dNeg, dIf, idxW, dNo, dSo, dCut, dCB, dCall, dCall0, int0, intW, isiW, put, gdName, gdSub, gdTup, gdCons, gdNil, dPar, dPar3, dRaise, EndsR, dLc, dLcM, iSeq, iTupD, iLst, iZipD, iEnumD, iRg1, iRg2, iStrD, wipeR, wipeR.unput, dFor, lenW, sqW, lsW, allW, anyW, sumW, tupCW, lstCW, lstCMW, absW, intCW, strCW, eqW, neW, isNonW, notNonW, nonB, addW, addMW, mulLW, inW, cutW, dRev, dAppC, dPop, dLRg1, dLRg2, dSplitC, dJoinC, dIsi2, tyN, isi, Option.isSome_some, Option.isSome_none, deref_int, deref_bl, deref_str, deref_non, deref_tup, deref_lst, ok_int, ok_bl, ok_non, peq_int, Bool.not_true, Bool.not_false, decide_eq_true_eq, true_or, or_true, false_or, or_false, false_and, and_false, not_true_eq_false, not_false_eq_true, Bool.not_eq_true', decide_eq_false_iff_not, ex_ins, dFld, dFldS, dMeth, dMeth0, dMake, dProp, dAugO, boolOW, intSW, MO.ins.injEq, bd_frame, bd_every, bd_lots, bd_now, bd_past, bd_put_now, bd_put_past, bd_no_renew, bd_no_undo, bd_length, ini1, ini2, ini3, ini4, ini5, ini_e2, ini_e3, ini_l3, ini_n1, ini_n2, ini_n3, ini_n4, sysP, tupI, ints_int] at hk ⊢
    refine ⟨line_of (by rw [pairUp_length, List.length_map, List.length_map]; omega), ?_⟩
    rw [pairUp_ints]
    refine lc_map (fun p => match p with | .tup [.int a, .int b] => .int (a * b) | _ => .non) (fun p hp k hk => ?_) ?_
    · obtain ⟨⟨a, b⟩, hm, rfl⟩ := List.mem_map.mp hp
      obtain ⟨ha, hb'⟩ := List.of_mem_zip hm
      have h1 := he a ha
      have h2 := hb b hb'
      simp (decide := true) only [startR, exists_and_left, at0, at1, at2, ix30, ix31, ix32, List.set_cons_zero, List.set_cons_succ, Option.some.injEq, MO.lst.injEq, P.int.injEq, P.tup.injEq, P.lst.injEq, exists_eq_left, exists_eq_left', exists_eq, updM_same, updM_updM, reduceCtorEq, List.length_map, List.map_cons, List.map_nil, List.length_cons, List.length_nil, Nat.reduceAdd, Nat.reduceSub, List.replicate_zero, List.replicate_succ, List.cons_append, List.nil_append, List.append_nil, List.append_assoc, Nat.sub_self, true_and, and_true, if_true, Bool.false_eq_true, if_false, dSeq, dNext, dIfS, dRet, dRetN, dAsg, dDrop, dVar, lk, dC, dCons, dNil, dTup, dLst, dLstM, dFz, dBin, dTest, asB, dChain, dTru, truW, dAnd, dOr, dNot, dAndV, dOrV, dNotV, dNeg, dIf, idxW, dNo, dSo, dCut, dCB, dCall, dCall0, int0, intW, isiW, put, gdName, gdSub, gdTup, gdCons, gdNil, dPar, dPar3, dRaise, EndsR, dLc, dLcM, iSeq, iTupD, iLst, iZipD, iEnumD, iRg1, iRg2, iStrD, wipeR, wipeR.unput, dFor, lenW, sqW, lsW, allW, anyW, sumW, tupCW, lstCW, lstCMW, absW, intCW, strCW, eqW, neW, isNonW, notNonW, nonB, addW, addMW, mulLW, inW, cutW, dRev, dAppC, dPop, dLRg1, dLRg2, dSplitC, dJoinC, dIsi2, tyN, isi, Option.isSome_some, Option.isSome_none, deref_int, deref_bl, deref_str, deref_non, deref_tup, deref_lst, ok_int, ok_bl, ok_non, peq_int, Bool.not_true, Bool.not_false, decide_eq_true_eq, true_or, or_true, false_or, or_false, false_and, and_false, not_true_eq_false, not_false_eq_true, Bool.not_eq_true', decide_eq_false_iff_not, ex_ins, dFld, dFldS, dMeth, dMeth0, dMake, dProp, dAugO, boolOW, intSW, MO.ins.injEq, bd_frame, bd_every, bd_lots, bd_now, bd_past, bd_put_now, bd_put_past, bd_no_renew, bd_no_undo, bd_length, ini1, ini2, ini3, ini4, ini5, ini_e2, ini_e3, ini_l3, ini_n1, ini_n2, ini_n3, ini_n4]
      exact ⟨mulOk (by omega) (by omega) (by omega) (by omega), hk⟩
    · refine ⟨(l.zip ms).map fun p => p.1 * p.2, ?_, ?_⟩
      · rw [List.nil_append, List.map_map, List.map_map]; rfl
      · exact hk
  · refine ⟨L.map fun l => decide (dot l ms = 0), ?_, ?_⟩
    · rw [List.nil_append, List.map_map, List.map_map]
      refine List.map_congr_left fun l _ => ?_
      show P.bl (decide (dot ((l.map P.int).map intOf) ms = 0)) = _
      rw [ints_int]; rfl
    · rw [all_id]; exact h
end
end NC

end
section
set_option Elab.async false
set_option linter.all false
set_option maxRecDepth 100000
set_option maxHeartbeats 4000000
namespace NC
open PySem PySem.Spec PyProof.Rows L2 RZ
section
variable {Pr : Program} {w : World} {K : PySem.W.Frag} {mg : Str → Option Value} {base : Heap}
def sp_all_answers : DSp := fun ds M Φ Ψ => ∃ (L : List (List Int)) (most : Nat) (u : Bool), ds = [sysP L, .int most, .bl u] ∧ SysOk L ∧ most ≤ 100000 ∧ most ^ (cols L) ≤ 100000 ∧ Φ (.lst ((ansU L most u).map tupI)) M
theorem growRow_P (most : Nat) (row : List Int) : (growRow most row).map tupI = (iota 1 most).map fun p => match p with | .int j => tupI (row ++ [j]) | q => q := by
  unfold iota growRow
  rw [List.map_map, List.map_map]; rfl
theorem flat_P (most : Nat) : ∀ rows : List (List Int), ((rows.map tupI).map fun p => match p with | .tup xs => (growRow most (xs.map intOf)).map tupI | _ => []).flatten = (rows.flatMap (growRow most)).map tupI
  | [] => rfl
  | r :: rs => by
    rw [List.map_cons, List.map_cons, List.flatten_cons, flat_P most rs, List.flatMap_cons, List.map_append]
    show (growRow most ((r.map P.int).map intOf)).map tupI ++ _ = _
    rw [ints_int]
theorem ok_all_answers (T : Top K mg) : Fx Pr w K mg base 2 "all_answers" ["system", "most", "unlike"] sp_all_answers := by
  refine fx_of T.d_all_answers sc_all_answers (fun _ _ _ _ _ _ us hl => match us, hl with | [_, _, _], _ => rfl) (fun f cdv A outer s H E Ψ hr tk => ⟨_, (dss_cons (ds_set (i := 3) (fun ht hh => ps_set sc_all_answers.nd rfl (by first | exact Or.inl rfl | exact Or.inr rfl) hh) (de_lst (da_cons (de_tup da_nil) da_nil))) (dss_cons (ds_for (passes_of rfl) rfl (di_rg1 rfl T.m_range (da_cons (de_callB cd_len rfl T.m_len (by decide +kernel) (da_cons (de_idx (de_var (pv 0)) de_int) da_nil)) da_nil)) (dg_name (pg_name (i := 4) sc_all_answers.nd rfl (by first | exact Or.inl rfl | exact Or.inr rfl))) (dss_one (ds_setLc2 (own := [("row", 6), ("number", 7)]) (vs1 := [7]) (i := 3) rfl sc_all_answers.nd rfl rfl (sw_true rfl rfl rfl (by decide +kernel)) (di_seq (de_var (pv 3))) (blkOk_by (sc := defScope s_all_answers) (own := [("row", 6), ("number", 7)]) (N := ["system", "most", "unlike", "rows", "column", "found", "row", "number"]) (by decide +kernel)) (by decide) (fun _ _ _ _ _ => (dgc_name (pg_name (i := 6) sc_all_answers.nd rfl (by first | exact Or.inl rfl | exact Or.inr rfl)) (by decide))) (fun _ _ _ _ _ => dts_nil) (fun _ _ _ _ _ => (di_rg2 rfl T.m_range (da_cons de_int (da_cons (de_bin opd_add (de_var (pv 1)) de_int) da_nil)))) (fun _ _ _ _ _ => (dgc_name (pg_name (i := 7) sc_all_answers.nd rfl (by first | exact Or.inl rfl | exact Or.inr rfl)) (by decide))) (fun _ _ _ _ _ => dts_nil) (fun _ _ _ _ _ => (de_bin opd_add (de_var (pv 6)) (de_tup (da_cons (de_var (pv 7)) da_nil))))))) (dss_cons (ds_setLc (own := [("row", 6)]) (i := 5) rfl sc_all_answers.nd rfl rfl (sw_true rfl rfl rfl (by decide +kernel)) (di_seq (de_var (pv 3))) (blkOk_by (sc := defScope s_all_answers) (own := [("row", 6)]) (N := ["system", "most", "unlike", "rows", "column", "found", "row", "number"]) (by decide +kernel)) (fun _ _ _ _ _ => (dgc_name (pg_name (i := 6) sc_all_answers.nd rfl (by first | exact Or.inl rfl | exact Or.inr rfl)) (by decide))) (fun _ _ _ _ _ => (dts_one (dt_tru (de_callF (ok_comes_to_nought T) (hr.mono (by decide)) rfl takesN (da_cons (de_var (pv 0)) (da_cons (de_var (pv 6)) da_nil)))))) (fun _ _ _ _ _ => (de_var (pv 6)))) (dss_one (ds_ret (de_lc (own := [("row", 6)]) rfl sc_all_answers.nd (di_seq (de_var (pv 5))) (blkOk_by (sc := defScope s_all_answers) (own := [("row", 6)]) (N := ["system", "most", "unlike", "rows", "column", "found", "row", "number"]) (by decide +kernel)) (fun _ _ _ _ _ => (dgc_name (pg_name (i := 6) sc_all_answers.nd rfl (by first | exact Or.inl rfl | exact Or.inr rfl)) (by decide))) (fun _ _ _ _ _ => (dts_one (DW.dt (dw_or (dt_not (dt_tru (de_var (pv 2)))) (dw_or1 (dt_cmp (opd_eq hr.units) (de_lenSet rfl rfl T.m_len rfl T.m_set (de_var (pv 6))) (de_callB cd_len rfl T.m_len (by decide +kernel) (da_cons (de_var (pv 6)) da_nil)) (nomark _))))))) (fun _ _ _ _ _ => (de_var (pv 6))))))))), ?_⟩)
  intro ds M Φ hn h
  obtain ⟨L, most, u, rfl, so, m2, mz, h⟩ := h
  have mono : ∀ {i j : Nat}, i ≤ j → 1 ≤ i → most ^ i ≤ most ^ j := fun {i j} hij hi => by
    rcases Nat.eq_zero_or_pos most with q | q
    · rw [q, Nat.zero_pow hi]; exact Nat.zero_le _
    · exact Nat.pow_le_pow_right q hij
  obtain ⟨l0, L0, eL, ec, ea⟩ := so.hd
  have c6 := so.c6
  simp (decide := true) only [startR, exists_and_left, at0, at1, at2, ix30, ix31, ix32, List.set_cons_zero, List.set_cons_succ, Option.some.injEq, MO.lst.injEq, P.int.injEq, P.tup.injEq, P.lst.injEq, exists_eq_left, exists_eq_left', exists_eq, updM_same, updM_updM, reduceCtorEq, List.length_map, List.map_cons, List.map_nil, List.length_cons, List.length_nil, Nat.reduceAdd, Nat.reduceSub, List.replicate_zero, List.replicate_succ, List.cons_append, List.nil_append, List.append_nil, List.append_assoc, Nat.sub_self, true_and, and_true, if_true, Bool.false_eq_true, if_false, dSeq, dNext, dIfS, dRet, dRetN, dAsg, dDrop, dVar, lk, dC, dCons, dNil, dTup, dLst, dLstM, dFz, dBin, dTest, asB, dChain, dTru, truW, dAnd, dOr, dNot, dAndV, dOrV, dNotV, dNeg, dIf, idxW, dNo, dSo, dCut, dCB, dCall, dCall0, int0, intW, isiW, put, gdName, gdSub, gdTup, gdCons, gdNil, dPar, dPar3, dRaise, EndsR, dLc, dLcM, iSeq, iTupD, iLst, iZipD, iEnumD, iRg1, iRg2, iStrD, wipeR, wipeR.unput, dFor, lenW, sqW, lsW, allW, anyW, sumW, tupCW, lstCW, lstCMW, absW, intCW, strCW, eqW, neW, isNonW, notNonW, nonB, addW, addMW, mulLW, inW, cutW, dRev, dAppC, dPop, dLRg1, dLRg2, dSplitC, dJoinC, dIsi2, tyN, isi, Option.isSome_some, Option.isSome_none, deref_int, deref_bl, deref_str, deref_non, deref_tup, deref_lst, ok_int, ok_bl, ok_non, peq_int, Bool.not_true, Bool.not_false, decide_eq_true_eq, true_or, or_true, false_or, or_false, false_and, and_false, not_true_eq_false, not_false_eq_true, Bool.not_eq_true', decide_eq_false_iff_not, ex_ins, dFld, dFldS, dMeth, dMeth0, dMake, dProp, dAugO, boolOW, intSW, MO.ins.injEq, bd_frame, bd_every, bd_lots, bd_now, bd_past, bd_put_now, bd_put_past, bd_no_renew, bd_no_undo, bd_length, ini1, ini2, ini3, ini4, ini5, ini_e2, ini_e3, ini_l3, ini_n1, ini_n2, ini_n3, ini_n4, sysP, ea, tupI, ec]
  refine ⟨⟨by omega, by omega⟩, ?_⟩
  rw [Int.toNat_natCast]
  refine for_gen (fun xs ρ M' => ∃ (c : Nat) (t4 t5 t6 t7 : Option P), M' = M ∧ c ≤ cols L ∧ xs = iota (c : Int) (cols L - c) ∧ ρ = [some (.tup (L.map tupI)), some (.int most), some (.bl u), some (.lst ((growRows most c).map tupI)), t4, t5, t6, t7]) (fun x xs ρ M' nx hI hnx => ?_) (fun ρ M' hI => ?_) _ _ _ ⟨0, _, _, _, _, rfl, by omega, rfl, rfl⟩
  · obtain ⟨c, t4, t5, t6, t7, rfl, hc, ex, rfl⟩ := hI
    have hlt : c < cols L := by
      rcases Nat.lt_or_ge c (cols L) with q | q
      · exact q
      · rw [show cols L - c = 0 by omega] at ex; cases ex
    rw [show cols L - c = (cols L - (c + 1)) + 1 by omega, iota_succ] at ex
    obtain ⟨rfl, rfl⟩ := List.cons.inj ex
    have hp : most ^ (c + 1) ≤ 100000 := Nat.le_trans (mono (show c + 1 ≤ cols L by omega) (Nat.le_add_left 1 c)) mz
    have hfl : ((growRows most c).flatMap (growRow most)).length ≤ 100000 := by
      rw [grow_flat, growRows_length, ← Nat.pow_succ]; exact hp
    simp (decide := true) only [startR, exists_and_left, at0, at1, at2, ix30, ix31, ix32, List.set_cons_zero, List.set_cons_succ, Option.some.injEq, MO.lst.injEq, P.int.injEq, P.tup.injEq, P.lst.injEq, exists_eq_left, exists_eq_left', exists_eq, updM_same, updM_updM, reduceCtorEq, List.length_map, List.map_cons, List.map_nil, List.length_cons, List.length_nil, Nat.reduceAdd, Nat.reduceSub, List.replicate_zero, List.replicate_succ, List.cons_append, List.nil_append, List.append_nil, List.append_assoc, Nat.sub_self, true_and, and_true, if_true, Bool.false_eq_true, if_false, dSeq, dNext, dIfS, dRet, dRetN, dAsg, dDrop, dVar, lk, dC, dCons, dNil, dTup, dLst, dLstM, dFz, dBin, dTest, asB, dChain, dTru, truW, dAnd, dOr, dNot, dAndV, dOrV, dNotV, dNeg, dIf, idxW, dNo, dSo, dCut, dCB, dCall, dCall0, int0, intW, isiW, put, gdName, gdSub, gdTup, gdCons, gdNil, dPar, dPar3, dRaise, EndsR, dLc, dLcM, iSeq, iTupD, iLst, iZipD, iEnumD, iRg1, iRg2, iStrD, wipeR, wipeR.unput, dFor, lenW, sqW, lsW, allW, anyW, sumW, tupCW, lstCW, lstCMW, absW, intCW, strCW, eqW, neW, isNonW, notNonW, nonB, addW, addMW, mulLW, inW, cutW, dRev, dAppC, dPop, dLRg1, dLRg2, dSplitC, dJoinC, dIsi2, tyN, isi, Option.isSome_some, Option.isSome_none, deref_int, deref_bl, deref_str, deref_non, deref_tup, deref_lst, ok_int, ok_bl, ok_non, peq_int, Bool.not_true, Bool.not_false, decide_eq_true_eq, true_or, or_true, false_or, or_false, false_and, and_false, not_true_eq_false, not_false_eq_true, Bool.not_eq_true', decide_eq_false_iff_not, ex_ins, dFld, dFldS, dMeth, dMeth0, dMake, dProp, dAugO, boolOW, intSW, MO.ins.injEq, bd_frame, bd_every, bd_lots, bd_now, bd_past, bd_put_now, bd_put_past, bd_no_renew, bd_no_undo, bd_length, ini1, ini2, ini3, ini4, ini5, ini_e2, ini_e3, ini_l3, ini_n1, ini_n2, ini_n3, ini_n4, dLc2]
    refine lc2_pure (fun p => match p with | .tup xs => (growRow most (xs.map intOf)).map tupI | _ => []) (fun p hp ac k hz hk => ?_) ?_
    · obtain ⟨row, hrow, rfl⟩ := List.mem_map.mp hp
      have hlen := (growRows_mem most c row hrow).1
      have ef : (match tupI row with | .tup xs => (growRow most (xs.map intOf)).map tupI | _ => []) = (growRow most row).map tupI := by
        show (growRow most ((row.map P.int).map intOf)).map tupI = _
        rw [ints_int]
      rw [ef] at hz hk
      rw [flat_P, List.length_map, List.length_map, growRow_length] at hz
      simp (decide := true) only [startR, exists_and_left, at0, at1, at2, ix30, ix31, ix32, List.set_cons_zero, List.set_cons_succ, Option.some.injEq, MO.lst.injEq, P.int.injEq, P.tup.injEq, P.lst.injEq, exists_eq_left, exists_eq_left', exists_eq, updM_same, updM_updM, reduceCtorEq, List.length_map, List.map_cons, List.map_nil, List.length_cons, List.length_nil, Nat.reduceAdd, Nat.reduceSub, List.replicate_zero, List.replicate_succ, List.cons_append, List.nil_append, List.append_nil, List.append_assoc, Nat.sub_self, true_and, and_true, if_true, Bool.false_eq_true, if_false, dSeq, dNext, dIfS, dRet, dRetN, dAsg, dDrop, dVar, lk, dC, dCons, dNil, dTup, dLst, dLstM, dFz, dBin, dTest, asB, dChain, dTru, truW, dAnd, dOr, dNot, dAndV, dOrV, dNotV, dNeg, dIf, idxW, dNo, dSo, dCut, dCB, dCall, dCall0, int0, intW, isiW, put, gdName, gdSub, gdTup, gdCons, gdNil, dPar, dPar3, dRaise, EndsR, dLc, dLcM, iSeq, iTupD, iLst, iZipD, iEnumD, iRg1, iRg2, iStrD, wipeR, wipeR.unput, dFor, lenW, sqW, lsW, allW, anyW, sumW, tupCW, lstCW, lstCMW, absW, intCW, strCW, eqW, neW, isNonW, notNonW, nonB, addW, addMW, mulLW, inW, cutW, dRev, dAppC, dPop, dLRg1, dLRg2, dSplitC, dJoinC, dIsi2, tyN, isi, Option.isSome_some, Option.isSome_none, deref_int, deref_bl, deref_str, deref_non, deref_tup, deref_lst, ok_int, ok_bl, ok_non, peq_int, Bool.not_true, Bool.not_false, decide_eq_true_eq, true_or, or_true, false_or, or_false, false_and, and_false, not_true_eq_false, not_false_eq_true, Bool.not_eq_true', decide_eq_false_iff_not, ex_ins, dFld, dFldS, dMeth, dMeth0, dMake, dProp, dAugO, boolOW, intSW, MO.ins.injEq, bd_frame, bd_every, bd_lots, bd_now, bd_past, bd_put_now, bd_put_past, bd_no_renew, bd_no_undo, bd_length, ini1, ini2, ini3, ini4, ini5, ini_e2, ini_e3, ini_l3, ini_n1, ini_n2, ini_n3, ini_n4, tupI] at hz ⊢
      have et : ((most : Int) + 1 - 1).toNat = most := by omega
      rw [et]
      refine ⟨⟨by omega, by omega⟩, lcB_pure (fun _ => true) (fun p => match p with | .int j => tupI (row ++ [j]) | q => q) ?_ (fun p hp k k0 hk hk0 => ?_) ?_⟩
      · rw [iota_length]
        exact line_of (by omega)
      · rw [iota_ints] at hp
        obtain ⟨j, _, rfl⟩ := List.mem_map.mp hp
        simp (decide := true) only [startR, exists_and_left, at0, at1, at2, ix30, ix31, ix32, List.set_cons_zero, List.set_cons_succ, Option.some.injEq, MO.lst.injEq, P.int.injEq, P.tup.injEq, P.lst.injEq, exists_eq_left, exists_eq_left', exists_eq, updM_same, updM_updM, reduceCtorEq, List.length_map, List.map_cons, List.map_nil, List.length_cons, List.length_nil, Nat.reduceAdd, Nat.reduceSub, List.replicate_zero, List.replicate_succ, List.cons_append, List.nil_append, List.append_nil, List.append_assoc, Nat.sub_self, true_and, and_true, if_true, Bool.false_eq_true, if_false, dSeq, dNext, dIfS, dRet, dRetN, dAsg, dDrop, dVar, lk, dC, dCons, dNil, dTup, dLst, dLstM, dFz, dBin, dTest, asB, dChain, dTru, truW, dAnd, dOr, dNot, dAndV, dOrV, dNotV, dNeg, dIf, idxW, dNo, dSo, dCut, dCB, dCall, dCall0, int0, intW, isiW, put, gdName, gdSub, gdTup, gdCons, gdNil, dPar, dPar3, dRaise, EndsR, dLc, dLcM, iSeq, iTupD, iLst, iZipD, iEnumD, iRg1, iRg2, iStrD, wipeR, wipeR.unput, dFor, lenW, sqW, lsW, allW, anyW, sumW, tupCW, lstCW, lstCMW, absW, intCW, strCW, eqW, neW, isNonW, notNonW, nonB, addW, addMW, mulLW, inW, cutW, dRev, dAppC, dPop, dLRg1, dLRg2, dSplitC, dJoinC, dIsi2, tyN, isi, Option.isSome_some, Option.isSome_none, deref_int, deref_bl, deref_str, deref_non, deref_tup, deref_lst, ok_int, ok_bl, ok_non, peq_int, Bool.not_true, Bool.not_false, decide_eq_true_eq, true_or, or_true, false_or, or_false, false_and, and_false, not_true_eq_false, not_false_eq_true, Bool.not_eq_true', decide_eq_false_iff_not, ex_ins, dFld, dFldS, dMeth, dMeth0, dMake, dProp, dAugO, boolOW, intSW, MO.ins.injEq, bd_frame, bd_every, bd_lots, bd_now, bd_past, bd_put_now, bd_put_past, bd_no_renew, bd_no_undo, bd_length, ini1, ini2, ini3, ini4, ini5, ini_e2, ini_e3, ini_l3, ini_n1, ini_n2, ini_n3, ini_n4, tupI]
        refine ⟨line_of (by omega), ?_⟩
        rw [tupI_snoc]
        exact hk rfl
      · rw [List.filter_eq_self.mpr (fun _ _ => rfl), ← growRow_P]
        exact hk
    · rw [List.nil_append, flat_P]
      exact hnx _ _ ⟨c + 1, _, _, _, _, rfl, hlt, rfl, rfl⟩
  · obtain ⟨c, t4, t5, t6, t7, rfl, hc, ex, rfl⟩ := hI
    have hc : c = cols L := by
      rcases Nat.lt_or_ge c (cols L) with q | q
      · rw [show cols L - c = (cols L - (c + 1)) + 1 by omega, iota_succ] at ex; cases ex
      · omega
    subst hc
    simp (decide := true) only [startR, exists_and_left, at0, at1, at2, ix30, ix31, ix32, List.set_cons_zero, List.set_cons_succ, Option.some.injEq, MO.lst.injEq, P.int.injEq, P.tup.injEq, P.lst.injEq, exists_eq_left, exists_eq_left', exists_eq, updM_same, updM_updM, reduceCtorEq, List.length_map, List.map_cons, List.map_nil, List.length_cons, List.length_nil, Nat.reduceAdd, Nat.reduceSub, List.replicate_zero, List.replicate_succ, List.cons_append, List.nil_append, List.append_nil, List.append_assoc, Nat.sub_self, true_and, and_true, if_true, Bool.false_eq_true, if_false, dSeq, dNext, dIfS, dRet, dRetN, dAsg, dDrop, dVar, lk, dC, dCons, dNil, dTup, dLst, dLstM, dFz, dBin, dTest, asB, dChain, dTru, truW, dAnd, dOr, dNot, dAndV, dOrV, dNotV, dNeg, dIf, idxW, dNo, dSo, dCut, dCB, dCall, dCall0, int0, intW, isiW, put, gdName, gdSub, gdTup, gdCons, gdNil, dPar, dPar3, dRaise, EndsR, dLc, dLcM, iSeq, iTupD, iLst, iZipD, iEnumD, iRg1, iRg2, iStrD, wipeR, wipeR.unput, dFor, lenW, sqW, lsW, allW, anyW, sumW, tupCW, lstCW, lstCMW, absW, intCW, strCW, eqW, neW, isNonW, notNonW, nonB, addW, addMW, mulLW, inW, cutW, dRev, dAppC, dPop, dLRg1, dLRg2, dSplitC, dJoinC, dIsi2, tyN, isi, Option.isSome_some, Option.isSome_none, deref_int, deref_bl, deref_str, deref_non, deref_tup, deref_lst, ok_int, ok_bl, ok_non, peq_int, Bool.not_true, Bool.not_false, decide_eq_true_eq, true_or, or_true, false_or, or_false, false_and, and_false, not_true_eq_false, not_false_eq_true, Bool.not_eq_true', decide_eq_false_iff_not, ex_ins, dFld, dFldS, dMeth, dMeth0, dMake, dProp, dAugO, boolOW, intSW, MO.ins.injEq, bd_frame, bd_every, bd_lots, bd_now, bd_past, bd_put_now, bd_put_past, bd_no_renew, bd_no_undo, bd_length, ini1, ini2, ini3, ini4, ini5, ini_e2, ini_e3, ini_l3, ini_n1, ini_n2, ini_n3, ini_n4]
    have hgl : (growRows most (cols L)).length ≤ 100000 := by rw [growRows_length]; exact mz
    refine ⟨line_of (by omega), lc_pure (fun p => match p with | .tup xs => nought L (xs.map intOf) | _ => false) (fun p => p) (fun p hp k k0 hk hk0 => ?_) ?_⟩
    · obtain ⟨row, hrow, rfl⟩ := List.mem_map.mp hp
      obtain ⟨hlen, hmem⟩ := growRows_mem most _ row hrow
      simp (decide := true) only [startR, exists_and_left, at0, at1, at2, ix30, ix31, ix32, List.set_cons_zero, List.set_cons_succ, Option.some.injEq, MO.lst.injEq, P.int.injEq, P.tup.injEq, P.lst.injEq, exists_eq_left, exists_eq_left', exists_eq, updM_same, updM_updM, reduceCtorEq, List.length_map, List.map_cons, List.map_nil, List.length_cons, List.length_nil, Nat.reduceAdd, Nat.reduceSub, List.replicate_zero, List.replicate_succ, List.cons_append, List.nil_append, List.append_nil, List.append_assoc, Nat.sub_self, true_and, and_true, if_true, Bool.false_eq_true, if_false, dSeq, dNext, dIfS, dRet, dRetN, dAsg, dDrop, dVar, lk, dC, dCons, dNil, dTup, dLst, dLstM, dFz, dBin, dTest, asB, dChain, dTru, truW, dAnd, dOr, dNot, dAndV, dOrV, dNotV, dNeg, dIf, idxW, dNo, dSo, dCut, dCB, dCall, dCall0, int0, intW, isiW, put, gdName, gdSub, gdTup, gdCons, gdNil, dPar, dPar3, dRaise, EndsR, dLc, dLcM, iSeq, iTupD, iLst, iZipD, iEnumD, iRg1, iRg2, iStrD, wipeR, wipeR.unput, dFor, lenW, sqW, lsW, allW, anyW, sumW, tupCW, lstCW, lstCMW, absW, intCW, strCW, eqW, neW, isNonW, notNonW, nonB, addW, addMW, mulLW, inW, cutW, dRev, dAppC, dPop, dLRg1, dLRg2, dSplitC, dJoinC, dIsi2, tyN, isi, Option.isSome_some, Option.isSome_none, deref_int, deref_bl, deref_str, deref_non, deref_tup, deref_lst, ok_int, ok_bl, ok_non, peq_int, Bool.not_true, Bool.not_false, decide_eq_true_eq, true_or, or_true, false_or, or_false, false_and, and_false, not_true_eq_false, not_false_eq_true, Bool.not_eq_true', decide_eq_false_iff_not, ex_ins, dFld, dFldS, dMeth, dMeth0, dMake, dProp, dAugO, boolOW, intSW, MO.ins.injEq, bd_frame, bd_every, bd_lots, bd_now, bd_past, bd_put_now, bd_put_past, bd_no_renew, bd_no_undo, bd_length, ini1, ini2, ini3, ini4, ini5, ini_e2, ini_e3, ini_l3, ini_n1, ini_n2, ini_n3, ini_n4, sp_comes_to_nought]
      refine ⟨L, row, rfl, so, fun x hx => by have := hmem x hx; omega, ?_⟩
      have e : (match tupI row with | .tup xs => nought L (xs.map intOf) | _ => false) = nought L row := by
        show nought L ((row.map P.int).map intOf) = _
        rw [ints_int]
      rw [e] at hk hk0
      cases q : nought L row with
      | true => exact hk q
      | false => exact hk0 q
    · have e1 : ((growRows most (cols L)).map tupI).filter (fun p => match p with | .tup xs => nought L (xs.map intOf) | _ => false) = (answersOf L most).map tupI := by
        unfold answersOf
        rw [List.filter_map]
        congr 1
        refine List.filter_congr fun row _ => ?_
        show nought L ((row.map P.int).map intOf) = _
        rw [ints_int]
      rw [List.nil_append, List.map_id', e1]
      have hal : (answersOf L most).length ≤ 100000 := Nat.le_trans (List.length_filter_le _ _) hgl
      refine ⟨line_of (by rw [List.length_map]; omega), lc_pure (fun p => match p with | .tup xs => !u || distinct (xs.map intOf) | _ => false) (fun p => p) (fun p hp k k0 hk hk0 => ?_) ?_⟩
      · obtain ⟨row, hrow, rfl⟩ := List.mem_map.mp hp
        obtain ⟨hlen, _⟩ := growRows_mem most _ row (List.mem_filter.mp hrow).1
        have e : (match tupI row with | .tup xs => !u || distinct (xs.map intOf) | _ => false) = (!u || distinct row) := by
          show (!u || distinct ((row.map P.int).map intOf)) = _
          rw [ints_int]
        rw [e] at hk hk0
        cases u with
        | false => simp (decide := true) only [startR, exists_and_left, at0, at1, at2, ix30, ix31, ix32, List.set_cons_zero, List.set_cons_succ, Option.some.injEq, MO.lst.injEq, P.int.injEq, P.tup.injEq, P.lst.injEq, exists_eq_left, exists_eq_left', exists_eq, updM_same, updM_updM, reduceCtorEq, List.length_map, List.map_cons, List.map_nil, List.length_cons, List.length_nil, Nat.reduceAdd, Nat.reduceSub, List.replicate_zero, List.replicate_succ, List.cons_append, List.nil_append, List.append_nil, List.append_assoc, Nat.sub_self, true_and, and_true, if_true, Bool.false_eq_true, if_false, dSeq, dNext, dIfS, dRet, dRetN, dAsg, dDrop, dVar, lk, dC, dCons, dNil, dTup, dLst, dLstM, dFz, dBin, dTest, asB, dChain, dTru, truW, dAnd, dOr, dNot, dAndV, dOrV, dNotV, dNeg, dIf, idxW, dNo, dSo, dCut, dCB, dCall, dCall0, int0, intW, isiW, put, gdName, gdSub, gdTup, gdCons, gdNil, dPar, dPar3, dRaise, EndsR, dLc, dLcM, iSeq, iTupD, iLst, iZipD, iEnumD, iRg1, iRg2, iStrD, wipeR, wipeR.unput, dFor, lenW, sqW, lsW, allW, anyW, sumW, tupCW, lstCW, lstCMW, absW, intCW, strCW, eqW, neW, isNonW, notNonW, nonB, addW, addMW, mulLW, inW, cutW, dRev, dAppC, dPop, dLRg1, dLRg2, dSplitC, dJoinC, dIsi2, tyN, isi, Option.isSome_some, Option.isSome_none, deref_int, deref_bl, deref_str, deref_non, deref_tup, deref_lst, ok_int, ok_bl, ok_non, peq_int, Bool.not_true, Bool.not_false, decide_eq_true_eq, true_or, or_true, false_or, or_false, false_and, and_false, not_true_eq_false, not_false_eq_true, Bool.not_eq_true', decide_eq_false_iff_not, ex_ins, dFld, dFldS, dMeth, dMeth0, dMake, dProp, dAugO, boolOW, intSW, MO.ins.injEq, bd_frame, bd_every, bd_lots, bd_now, bd_past, bd_put_now, bd_put_past, bd_no_renew, bd_no_undo, bd_length, ini1, ini2, ini3, ini4, ini5, ini_e2, ini_e3, ini_l3, ini_n1, ini_n2, ini_n3, ini_n4]; exact hk rfl
        | true =>
          simp (decide := true) only [startR, exists_and_left, at0, at1, at2, ix30, ix31, ix32, List.set_cons_zero, List.set_cons_succ, Option.some.injEq, MO.lst.injEq, P.int.injEq, P.tup.injEq, P.lst.injEq, exists_eq_left, exists_eq_left', exists_eq, updM_same, updM_updM, reduceCtorEq, List.length_map, List.map_cons, List.map_nil, List.length_cons, List.length_nil, Nat.reduceAdd, Nat.reduceSub, List.replicate_zero, List.replicate_succ, List.cons_append, List.nil_append, List.append_nil, List.append_assoc, Nat.sub_self, true_and, and_true, if_true, Bool.false_eq_true, if_false, dSeq, dNext, dIfS, dRet, dRetN, dAsg, dDrop, dVar, lk, dC, dCons, dNil, dTup, dLst, dLstM, dFz, dBin, dTest, asB, dChain, dTru, truW, dAnd, dOr, dNot, dAndV, dOrV, dNotV, dNeg, dIf, idxW, dNo, dSo, dCut, dCB, dCall, dCall0, int0, intW, isiW, put, gdName, gdSub, gdTup, gdCons, gdNil, dPar, dPar3, dRaise, EndsR, dLc, dLcM, iSeq, iTupD, iLst, iZipD, iEnumD, iRg1, iRg2, iStrD, wipeR, wipeR.unput, dFor, lenW, sqW, lsW, allW, anyW, sumW, tupCW, lstCW, lstCMW, absW, intCW, strCW, eqW, neW, isNonW, notNonW, nonB, addW, addMW, mulLW, inW, cutW, dRev, dAppC, dPop, dLRg1, dLRg2, dSplitC, dJoinC, dIsi2, tyN, isi, Option.isSome_some, Option.isSome_none, deref_int, deref_bl, deref_str, deref_non, deref_tup, deref_lst, ok_int, ok_bl, ok_non, peq_int, Bool.not_true, Bool.not_false, decide_eq_true_eq, true_or, or_true, false_or, or_false, false_and, and_false, not_true_eq_false, not_false_eq_true, Bool.not_eq_true', decide_eq_false_iff_not, ex_ins, dFld, dFldS, dMeth, dMeth0, dMake, dProp, dAugO, boolOW, intSW, MO.ins.injEq, bd_frame, bd_every, bd_lots, bd_now, bd_past, bd_put_now, bd_put_past, bd_no_renew, bd_no_undo, bd_length, ini1, ini2, ini3, ini4, ini5, ini_e2, ini_e3, ini_l3, ini_n1, ini_n2, ini_n3, ini_n4, dLenSet]
          refine lenSet_ints (by omega) ?_
          simp (decide := true) only [startR, exists_and_left, at0, at1, at2, ix30, ix31, ix32, List.set_cons_zero, List.set_cons_succ, Option.some.injEq, MO.lst.injEq, P.int.injEq, P.tup.injEq, P.lst.injEq, exists_eq_left, exists_eq_left', exists_eq, updM_same, updM_updM, reduceCtorEq, List.length_map, List.map_cons, List.map_nil, List.length_cons, List.length_nil, Nat.reduceAdd, Nat.reduceSub, List.replicate_zero, List.replicate_succ, List.cons_append, List.nil_append, List.append_nil, List.append_assoc, Nat.sub_self, true_and, and_true, if_true, Bool.false_eq_true, if_false, dSeq, dNext, dIfS, dRet, dRetN, dAsg, dDrop, dVar, lk, dC, dCons, dNil, dTup, dLst, dLstM, dFz, dBin, dTest, asB, dChain, dTru, truW, dAnd, dOr, dNot, dAndV, dOrV, dNotV, dNeg, dIf, idxW, dNo, dSo, dCut, dCB, dCall, dCall0, int0, intW, isiW, put, gdName, gdSub, gdTup, gdCons, gdNil, dPar, dPar3, dRaise, EndsR, dLc, dLcM, iSeq, iTupD, iLst, iZipD, iEnumD, iRg1, iRg2, iStrD, wipeR, wipeR.unput, dFor, lenW, sqW, lsW, allW, anyW, sumW, tupCW, lstCW, lstCMW, absW, intCW, strCW, eqW, neW, isNonW, notNonW, nonB, addW, addMW, mulLW, inW, cutW, dRev, dAppC, dPop, dLRg1, dLRg2, dSplitC, dJoinC, dIsi2, tyN, isi, Option.isSome_some, Option.isSome_none, deref_int, deref_bl, deref_str, deref_non, deref_tup, deref_lst, ok_int, ok_bl, ok_non, peq_int, Bool.not_true, Bool.not_false, decide_eq_true_eq, true_or, or_true, false_or, or_false, false_and, and_false, not_true_eq_false, not_false_eq_true, Bool.not_eq_true', decide_eq_false_iff_not, ex_ins, dFld, dFldS, dMeth, dMeth0, dMake, dProp, dAugO, boolOW, intSW, MO.ins.injEq, bd_frame, bd_every, bd_lots, bd_now, bd_past, bd_put_now, bd_put_past, bd_no_renew, bd_no_undo, bd_length, ini1, ini2, ini3, ini4, ini5, ini_e2, ini_e3, ini_l3, ini_n1, ini_n2, ini_n3, ini_n4, tupI]
          by_cases hd : (dedup [] row).length = row.length
          · rw [if_pos (by rw [hd])]
            exact hk (by show distinct row = true; exact decide_eq_true hd)
          · rw [if_neg (by omega)]
            exact hk0 (by show distinct row = false; exact decide_eq_false hd)
      · have e2 : ((answersOf L most).map tupI).filter (fun p => match p with | .tup xs => !u || distinct (xs.map intOf) | _ => false) = (ansU L most u).map tupI := by
          unfold ansU
          rw [List.filter_map]
          congr 1
          refine List.filter_congr fun row _ => ?_
          show (!u || distinct ((row.map P.int).map intOf)) = _
          rw [ints_int]
        rw [List.nil_append, List.map_id', e2]
        exact Lt.of h
end
end NC

end
section
set_option Elab.async false
set_option linter.all false
set_option maxRecDepth 100000
set_option maxHeartbeats 4000000
namespace NC
open PySem PySem.Spec PyProof.Rows L2 RZ
section
variable {Pr : Program} {w : World} {K : PySem.W.Frag} {mg : Str → Option Value} {base : Heap}
def sp_lots_by : DSp := fun ds M Φ Ψ => ∃ (every : List (List Int)), ds = [.lst (every.map tupI)] ∧ every.length ≤ 100000 ∧ (∀ row ∈ every, 1 ≤ row.length ∧ row.length ≤ 4 ∧ ∀ x ∈ row, 1 ≤ x ∧ x ≤ 16) ∧ ∀ lots, LotsOk every lots → Φ (.lst (lots.map lotP)) M
theorem ok_lots_by (T : Top K mg) : Fx Pr w K mg base 1 "lots_by" ["every"] sp_lots_by := by
  refine fx_of T.d_lots_by sc_lots_by (fun _ _ _ _ _ _ us hl => match us, hl with | [_], _ => rfl) (fun f cdv A outer s H E Ψ hr tk => ⟨_, (dss_cons (ds_set (i := 1) (fun ht hh => ps_set sc_lots_by.nd rfl (by first | exact Or.inl rfl | exact Or.inr rfl) hh) (de_lstM da_nil)) (dss_cons (ds_for (passes_of rfl) rfl (di_rg1 rfl T.m_range (da_cons (de_bin opd_add (de_gint rfl T.c_MOST_SIGNS) de_int) da_nil)) (dg_name (pg_name (i := 2) sc_lots_by.nd rfl (by first | exact Or.inl rfl | exact Or.inr rfl))) (dss_cons (ds_set (i := 3) (fun ht hh => ps_set sc_lots_by.nd rfl (by first | exact Or.inl rfl | exact Or.inr rfl) hh) (de_callT (cd_setT rfl hr.units) rfl T.m_set (by decide +kernel) (da_cons (de_lc (own := [("row", 4)]) rfl sc_lots_by.nd (di_seq (de_var (pv 0))) (blkOk_by (sc := defScope s_lots_by) (own := [("row", 4)]) (N := ["every", "found", "most", "some", "row", "lot"]) (by decide +kernel)) (fun _ _ _ _ _ => (dgc_name (pg_name (i := 4) sc_lots_by.nd rfl (by first | exact Or.inl rfl | exact Or.inr rfl)) (by decide))) (fun _ _ _ _ _ => (dts_one (dt_cmp (opd_eq hr.units) (de_callB (cd_maxT rfl) rfl T.m_max (by decide +kernel) (da_cons (de_var (pv 4)) da_nil)) (de_var (pv 2)) (nomark _)))) (fun _ _ _ _ _ => (de_callT cd_tuple rfl T.m_tuple (by decide +kernel) (da_cons (de_sortSet rfl rfl T.m_sorted rfl T.m_set (de_var (pv 4))) da_nil)))) da_nil))) (dss_one (ds_expr (de_append (de_var (pv 1)) (de_lc (own := [("lot", 5)]) rfl sc_lots_by.nd (di_seq (de_callB (cd_sortedS rfl) rfl T.m_sorted (by decide +kernel) (da_cons (de_var (pv 3)) da_nil))) (blkOk_by (sc := defScope s_lots_by) (own := [("lot", 5)]) (N := ["every", "found", "most", "some", "row", "lot"]) (by decide +kernel)) (fun _ _ _ _ _ => (dgc_name (pg_name (i := 5) sc_lots_by.nd rfl (by first | exact Or.inl rfl | exact Or.inr rfl)) (by decide))) (fun _ _ _ _ _ => dts_nil) (fun _ _ _ _ _ => (de_cut (de_var (pv 5)) do_none (do_some (de_neg de_int)))))))))) (dss_one (ds_ret (de_fz (de_var (pv 1))))))), ?_⟩)
  intro ds M Φ hn h
  obtain ⟨every, rfl, ez, er, h⟩ := h
  simp (decide := true) only [startR, exists_and_left, at0, at1, at2, ix30, ix31, ix32, List.set_cons_zero, List.set_cons_succ, Option.some.injEq, MO.lst.injEq, P.int.injEq, P.tup.injEq, P.lst.injEq, exists_eq_left, exists_eq_left', exists_eq, updM_same, updM_updM, reduceCtorEq, List.length_map, List.map_cons, List.map_nil, List.length_cons, List.length_nil, Nat.reduceAdd, Nat.reduceSub, List.replicate_zero, List.replicate_succ, List.cons_append, List.nil_append, List.append_nil, List.append_assoc, Nat.sub_self, true_and, and_true, if_true, Bool.false_eq_true, if_false, dSeq, dNext, dIfS, dRet, dRetN, dAsg, dDrop, dVar, lk, dC, dCons, dNil, dTup, dLst, dLstM, dFz, dBin, dTest, asB, dChain, dTru, truW, dAnd, dOr, dNot, dAndV, dOrV, dNotV, dNeg, dIf, idxW, dNo, dSo, dCut, dCB, dCall, dCall0, int0, intW, isiW, put, gdName, gdSub, gdTup, gdCons, gdNil, dPar, dPar3, dRaise, EndsR, dLc, dLcM, iSeq, iTupD, iLst, iZipD, iEnumD, iRg1, iRg2, iStrD, wipeR, wipeR.unput, dFor, lenW, sqW, lsW, allW, anyW, sumW, tupCW, lstCW, lstCMW, absW, intCW, strCW, eqW, neW, isNonW, notNonW, nonB, addW, addMW, mulLW, inW, cutW, dRev, dAppC, dPop, dLRg1, dLRg2, dSplitC, dJoinC, dIsi2, tyN, isi, Option.isSome_some, Option.isSome_none, deref_int, deref_bl, deref_str, deref_non, deref_tup, deref_lst, ok_int, ok_bl, ok_non, peq_int, Bool.not_true, Bool.not_false, decide_eq_true_eq, true_or, or_true, false_or, or_false, false_and, and_false, not_true_eq_false, not_false_eq_true, Bool.not_eq_true', decide_eq_false_iff_not, ex_ins, dFld, dFldS, dMeth, dMeth0, dMake, dProp, dAugO, boolOW, intSW, MO.ins.injEq, bd_frame, bd_every, bd_lots, bd_now, bd_past, bd_put_now, bd_put_past, bd_no_renew, bd_no_undo, bd_length, ini1, ini2, ini3, ini4, ini5, ini_e2, ini_e3, ini_l3, ini_n1, ini_n2, ini_n3, ini_n4]
  intro a ha
  refine for_gen (fun xs ρ M' => ∃ (n : Nat) (lots : List (List (List Int))) (t2 t3 t4 t5 : Option P), n ≤ 17 ∧ xs = iota n (17 - n) ∧ lots.length = n ∧ (∀ (i : Nat) kss, lots[i]? = some kss → LotsAt every i kss) ∧ M' a = some (.lst (lots.map lotP)) ∧ (∀ j o, M j = some o → M' j = some o) ∧ ρ = [some (.lst (every.map tupI)), some (.ref a), t2, t3, t4, t5]) (fun x xs ρ M' nx hI hnx => ?_) (fun ρ M' hI => ?_) _ _ _ ⟨0, [], _, _, _, _, by omega, rfl, rfl, fun i kss e => by simp at e, updM_same, fun j o e => by rw [updM_ne (fun z => by rw [z, ha] at e; cases e)]; exact e, rfl⟩
  · obtain ⟨n, lots, t2, t3, t4, t5, hn17, ex, hl, hg, hMa, hMo, rfl⟩ := hI
    have lt : n < 17 := by
      rcases Nat.lt_or_ge n 17 with q | q
      · exact q
      · rw [show 17 - n = 0 by omega] at ex; cases ex
    rw [show 17 - n = (17 - (n + 1)) + 1 by omega, iota_succ] at ex
    obtain ⟨rfl, rfl⟩ := List.cons.inj ex
    simp (decide := true) only [startR, exists_and_left, at0, at1, at2, ix30, ix31, ix32, List.set_cons_zero, List.set_cons_succ, Option.some.injEq, MO.lst.injEq, P.int.injEq, P.tup.injEq, P.lst.injEq, exists_eq_left, exists_eq_left', exists_eq, updM_same, updM_updM, reduceCtorEq, List.length_map, List.map_cons, List.map_nil, List.length_cons, List.length_nil, Nat.reduceAdd, Nat.reduceSub, List.replicate_zero, List.replicate_succ, List.cons_append, List.nil_append, List.append_nil, List.append_assoc, Nat.sub_self, true_and, and_true, if_true, Bool.false_eq_true, if_false, dSeq, dNext, dIfS, dRet, dRetN, dAsg, dDrop, dVar, lk, dC, dCons, dNil, dTup, dLst, dLstM, dFz, dBin, dTest, asB, dChain, dTru, truW, dAnd, dOr, dNot, dAndV, dOrV, dNotV, dNeg, dIf, idxW, dNo, dSo, dCut, dCB, dCall, dCall0, int0, intW, isiW, put, gdName, gdSub, gdTup, gdCons, gdNil, dPar, dPar3, dRaise, EndsR, dLc, dLcM, iSeq, iTupD, iLst, iZipD, iEnumD, iRg1, iRg2, iStrD, wipeR, wipeR.unput, dFor, lenW, sqW, lsW, allW, anyW, sumW, tupCW, lstCW, lstCMW, absW, intCW, strCW, eqW, neW, isNonW, notNonW, nonB, addW, addMW, mulLW, inW, cutW, dRev, dAppC, dPop, dLRg1, dLRg2, dSplitC, dJoinC, dIsi2, tyN, isi, Option.isSome_some, Option.isSome_none, deref_int, deref_bl, deref_str, deref_non, deref_tup, deref_lst, ok_int, ok_bl, ok_non, peq_int, Bool.not_true, Bool.not_false, decide_eq_true_eq, true_or, or_true, false_or, or_false, false_and, and_false, not_true_eq_false, not_false_eq_true, Bool.not_eq_true', decide_eq_false_iff_not, ex_ins, dFld, dFldS, dMeth, dMeth0, dMake, dProp, dAugO, boolOW, intSW, MO.ins.injEq, bd_frame, bd_every, bd_lots, bd_now, bd_past, bd_put_now, bd_put_past, bd_no_renew, bd_no_undo, bd_length, ini1, ini2, ini3, ini4, ini5, ini_e2, ini_e3, ini_l3, ini_n1, ini_n2, ini_n3, ini_n4]
    refine ⟨line_of (by omega), lc_gen (fun ys acc M'' => ∃ (done rest kss : List (List Int)), M'' = M' ∧ every = done ++ rest ∧ ys = rest.map tupI ∧ acc = kss.map tupI ∧ (∀ k ∈ kss, ∃ row ∈ done, Top1 row n ∧ AscOf k row) ∧ (∀ row ∈ done, Top1 row n → ∃ k ∈ kss, AscOf k row)) (fun y ys acc M'' k k0 hI h1 h2 => ?_) (fun acc M'' hI => ?_) _ _ _ ⟨[], every, [], rfl, rfl, rfl, rfl, fun k hk => absurd hk List.not_mem_nil, fun r hr => absurd hr List.not_mem_nil⟩⟩
    · obtain ⟨done, rest, kss, rfl, eg, ey, eac, p1, p2⟩ := hI
      cases rest with
      | nil => cases ey
      | cons row rest =>
        rw [List.map_cons] at ey
        obtain ⟨rfl, rfl⟩ := List.cons.inj ey
        have hrow : row ∈ every := by rw [eg]; exact List.mem_append_right _ List.mem_cons_self
        obtain ⟨hlen1, hlen4, hpos⟩ := er row hrow
        simp (decide := true) only [startR, exists_and_left, at0, at1, at2, ix30, ix31, ix32, List.set_cons_zero, List.set_cons_succ, Option.some.injEq, MO.lst.injEq, P.int.injEq, P.tup.injEq, P.lst.injEq, exists_eq_left, exists_eq_left', exists_eq, updM_same, updM_updM, reduceCtorEq, List.length_map, List.map_cons, List.map_nil, List.length_cons, List.length_nil, Nat.reduceAdd, Nat.reduceSub, List.replicate_zero, List.replicate_succ, List.cons_append, List.nil_append, List.append_nil, List.append_assoc, Nat.sub_self, true_and, and_true, if_true, Bool.false_eq_true, if_false, dSeq, dNext, dIfS, dRet, dRetN, dAsg, dDrop, dVar, lk, dC, dCons, dNil, dTup, dLst, dLstM, dFz, dBin, dTest, asB, dChain, dTru, truW, dAnd, dOr, dNot, dAndV, dOrV, dNotV, dNeg, dIf, idxW, dNo, dSo, dCut, dCB, dCall, dCall0, int0, intW, isiW, put, gdName, gdSub, gdTup, gdCons, gdNil, dPar, dPar3, dRaise, EndsR, dLc, dLcM, iSeq, iTupD, iLst, iZipD, iEnumD, iRg1, iRg2, iStrD, wipeR, wipeR.unput, dFor, lenW, sqW, lsW, allW, anyW, sumW, tupCW, lstCW, lstCMW, absW, intCW, strCW, eqW, neW, isNonW, notNonW, nonB, addW, addMW, mulLW, inW, cutW, dRev, dAppC, dPop, dLRg1, dLRg2, dSplitC, dJoinC, dIsi2, tyN, isi, Option.isSome_some, Option.isSome_none, deref_int, deref_bl, deref_str, deref_non, deref_tup, deref_lst, ok_int, ok_bl, ok_non, peq_int, Bool.not_true, Bool.not_false, decide_eq_true_eq, true_or, or_true, false_or, or_false, false_and, and_false, not_true_eq_false, not_false_eq_true, Bool.not_eq_true', decide_eq_false_iff_not, ex_ins, dFld, dFldS, dMeth, dMeth0, dMake, dProp, dAugO, boolOW, intSW, MO.ins.injEq, bd_frame, bd_every, bd_lots, bd_now, bd_past, bd_put_now, bd_put_past, bd_no_renew, bd_no_undo, bd_length, ini1, ini2, ini3, ini4, ini5, ini_e2, ini_e3, ini_l3, ini_n1, ini_n2, ini_n3, ini_n4, maxTW, dSortSet, tupI]
        refine ⟨row, rfl, by omega, fun m m1 m2 => ?_⟩
        by_cases q : m = (n : Int)
        · have ht : Top1 row n := ⟨by rw [← q]; exact m1, fun x hx => by rw [← q]; exact m2 x hx⟩
          rw [if_pos (by rw [q])]
          simp (decide := true) only [startR, exists_and_left, at0, at1, at2, ix30, ix31, ix32, List.set_cons_zero, List.set_cons_succ, Option.some.injEq, MO.lst.injEq, P.int.injEq, P.tup.injEq, P.lst.injEq, exists_eq_left, exists_eq_left', exists_eq, updM_same, updM_updM, reduceCtorEq, List.length_map, List.map_cons, List.map_nil, List.length_cons, List.length_nil, Nat.reduceAdd, Nat.reduceSub, List.replicate_zero, List.replicate_succ, List.cons_append, List.nil_append, List.append_nil, List.append_assoc, Nat.sub_self, true_and, and_true, if_true, Bool.false_eq_true, if_false, dSeq, dNext, dIfS, dRet, dRetN, dAsg, dDrop, dVar, lk, dC, dCons, dNil, dTup, dLst, dLstM, dFz, dBin, dTest, asB, dChain, dTru, truW, dAnd, dOr, dNot, dAndV, dOrV, dNotV, dNeg, dIf, idxW, dNo, dSo, dCut, dCB, dCall, dCall0, int0, intW, isiW, put, gdName, gdSub, gdTup, gdCons, gdNil, dPar, dPar3, dRaise, EndsR, dLc, dLcM, iSeq, iTupD, iLst, iZipD, iEnumD, iRg1, iRg2, iStrD, wipeR, wipeR.unput, dFor, lenW, sqW, lsW, allW, anyW, sumW, tupCW, lstCW, lstCMW, absW, intCW, strCW, eqW, neW, isNonW, notNonW, nonB, addW, addMW, mulLW, inW, cutW, dRev, dAppC, dPop, dLRg1, dLRg2, dSplitC, dJoinC, dIsi2, tyN, isi, Option.isSome_some, Option.isSome_none, deref_int, deref_bl, deref_str, deref_non, deref_tup, deref_lst, ok_int, ok_bl, ok_non, peq_int, Bool.not_true, Bool.not_false, decide_eq_true_eq, true_or, or_true, false_or, or_false, false_and, and_false, not_true_eq_false, not_false_eq_true, Bool.not_eq_true', decide_eq_false_iff_not, ex_ins, dFld, dFldS, dMeth, dMeth0, dMake, dProp, dAugO, boolOW, intSW, MO.ins.injEq, bd_frame, bd_every, bd_lots, bd_now, bd_past, bd_put_now, bd_put_past, bd_no_renew, bd_no_undo, bd_length, ini1, ini2, ini3, ini4, ini5, ini_e2, ini_e3, ini_l3, ini_n1, ini_n2, ini_n3, ini_n4, sortSetW]
          refine ⟨row, rfl, by omega, fun ns' a1 a2 => ?_⟩
          refine h1 (tupI ns') _ ⟨done ++ [row], rest, kss ++ [ns'], rfl, by rw [eg, List.append_assoc]; rfl, rfl, by rw [eac, List.map_append]; rfl, fun k hk => ?_, fun r hr htr => ?_⟩
          · rcases List.mem_append.mp hk with hk | hk
            · obtain ⟨r, hr, z⟩ := p1 k hk
              exact ⟨r, List.mem_append_left _ hr, z⟩
            · rw [List.mem_singleton.mp hk]
              exact ⟨row, List.mem_append_right _ (List.mem_singleton.mpr rfl), ht, a1, a2⟩
          · rcases List.mem_append.mp hr with hr | hr
            · obtain ⟨k, hk, z⟩ := p2 r hr htr
              exact ⟨k, List.mem_append_left _ hk, z⟩
            · rw [List.mem_singleton.mp hr]
              exact ⟨ns', List.mem_append_right _ (List.mem_singleton.mpr rfl), a1, a2⟩
        · rw [if_neg (by simpa using q)]
          refine h2 _ ⟨done ++ [row], rest, kss, rfl, by rw [eg, List.append_assoc]; rfl, rfl, eac, fun k hk => ?_, fun r hr htr => ?_⟩
          · obtain ⟨r, hr, z⟩ := p1 k hk
            exact ⟨r, List.mem_append_left _ hr, z⟩
          · rcases List.mem_append.mp hr with hr | hr
            · exact p2 r hr htr
            · rw [List.mem_singleton.mp hr] at htr
              exact absurd (Int.le_antisymm (htr.2 m m1) (m2 _ htr.1)) q
    · obtain ⟨done, rest, kss, rfl, eg, ey, eac, p1, p2⟩ := hI
      cases rest with
      | cons row rest => cases ey
      | nil =>
        rw [List.append_nil] at eg
        subst eg
        simp (decide := true) only [startR, exists_and_left, at0, at1, at2, ix30, ix31, ix32, List.set_cons_zero, List.set_cons_succ, Option.some.injEq, MO.lst.injEq, P.int.injEq, P.tup.injEq, P.lst.injEq, exists_eq_left, exists_eq_left', exists_eq, updM_same, updM_updM, reduceCtorEq, List.length_map, List.map_cons, List.map_nil, List.length_cons, List.length_nil, Nat.reduceAdd, Nat.reduceSub, List.replicate_zero, List.replicate_succ, List.cons_append, List.nil_append, List.append_nil, List.append_assoc, Nat.sub_self, true_and, and_true, if_true, Bool.false_eq_true, if_false, dSeq, dNext, dIfS, dRet, dRetN, dAsg, dDrop, dVar, lk, dC, dCons, dNil, dTup, dLst, dLstM, dFz, dBin, dTest, asB, dChain, dTru, truW, dAnd, dOr, dNot, dAndV, dOrV, dNotV, dNeg, dIf, idxW, dNo, dSo, dCut, dCB, dCall, dCall0, int0, intW, isiW, put, gdName, gdSub, gdTup, gdCons, gdNil, dPar, dPar3, dRaise, EndsR, dLc, dLcM, iSeq, iTupD, iLst, iZipD, iEnumD, iRg1, iRg2, iStrD, wipeR, wipeR.unput, dFor, lenW, sqW, lsW, allW, anyW, sumW, tupCW, lstCW, lstCMW, absW, intCW, strCW, eqW, neW, isNonW, notNonW, nonB, addW, addMW, mulLW, inW, cutW, dRev, dAppC, dPop, dLRg1, dLRg2, dSplitC, dJoinC, dIsi2, tyN, isi, Option.isSome_some, Option.isSome_none, deref_int, deref_bl, deref_str, deref_non, deref_tup, deref_lst, ok_int, ok_bl, ok_non, peq_int, Bool.not_true, Bool.not_false, decide_eq_true_eq, true_or, or_true, false_or, or_false, false_and, and_false, not_true_eq_false, not_false_eq_true, Bool.not_eq_true', decide_eq_false_iff_not, ex_ins, dFld, dFldS, dMeth, dMeth0, dMake, dProp, dAugO, boolOW, intSW, MO.ins.injEq, bd_frame, bd_every, bd_lots, bd_now, bd_past, bd_put_now, bd_put_past, bd_no_renew, bd_no_undo, bd_length, ini1, ini2, ini3, ini4, ini5, ini_e2, ini_e3, ini_l3, ini_n1, ini_n2, ini_n3, ini_n4, setTW]
        refine ⟨kss, eac, asc3.map (· ++ [(n : Int)]), by rw [List.length_map, asc3_len]; omega, fun k hk => ?_, fun b o kss2 hb hs nd mem => ?_⟩
        · obtain ⟨row, hr, ht, as⟩ := p1 k hk
          exact asc_in as ht (er row hr).2.1 (er row hr).2.2
        · have hba : b ≠ a := fun z => by rw [z, hMa] at hb; cases hb
          simp (decide := true) only [startR, exists_and_left, at0, at1, at2, ix30, ix31, ix32, List.set_cons_zero, List.set_cons_succ, Option.some.injEq, MO.lst.injEq, P.int.injEq, P.tup.injEq, P.lst.injEq, exists_eq_left, exists_eq_left', exists_eq, updM_same, updM_updM, reduceCtorEq, List.length_map, List.map_cons, List.map_nil, List.length_cons, List.length_nil, Nat.reduceAdd, Nat.reduceSub, List.replicate_zero, List.replicate_succ, List.cons_append, List.nil_append, List.append_nil, List.append_assoc, Nat.sub_self, true_and, and_true, if_true, Bool.false_eq_true, if_false, dSeq, dNext, dIfS, dRet, dRetN, dAsg, dDrop, dVar, lk, dC, dCons, dNil, dTup, dLst, dLstM, dFz, dBin, dTest, asB, dChain, dTru, truW, dAnd, dOr, dNot, dAndV, dOrV, dNotV, dNeg, dIf, idxW, dNo, dSo, dCut, dCB, dCall, dCall0, int0, intW, isiW, put, gdName, gdSub, gdTup, gdCons, gdNil, dPar, dPar3, dRaise, EndsR, dLc, dLcM, iSeq, iTupD, iLst, iZipD, iEnumD, iRg1, iRg2, iStrD, wipeR, wipeR.unput, dFor, lenW, sqW, lsW, allW, anyW, sumW, tupCW, lstCW, lstCMW, absW, intCW, strCW, eqW, neW, isNonW, notNonW, nonB, addW, addMW, mulLW, inW, cutW, dRev, dAppC, dPop, dLRg1, dLRg2, dSplitC, dJoinC, dIsi2, tyN, isi, Option.isSome_some, Option.isSome_none, deref_int, deref_bl, deref_str, deref_non, deref_tup, deref_lst, ok_int, ok_bl, ok_non, peq_int, Bool.not_true, Bool.not_false, decide_eq_true_eq, true_or, or_true, false_or, or_false, false_and, and_false, not_true_eq_false, not_false_eq_true, Bool.not_eq_true', decide_eq_false_iff_not, ex_ins, dFld, dFldS, dMeth, dMeth0, dMake, dProp, dAugO, boolOW, intSW, MO.ins.injEq, bd_frame, bd_every, bd_lots, bd_now, bd_past, bd_put_now, bd_put_past, bd_no_renew, bd_no_undo, bd_length, ini1, ini2, ini3, ini4, ini5, ini_e2, ini_e3, ini_l3, ini_n1, ini_n2, ini_n3, ini_n4, sortSW]
          have ne : ∀ k ∈ kss2, k ≠ [] := fun k hk e => by
            obtain ⟨row, hr, ht, as⟩ := p1 k ((mem k).mp hk)
            have := (as.2 n).mpr ht.1
            rw [e] at this
            cases this
          refine ⟨⟨_, by rw [updM_ne (Ne.symm hba)]; exact hMa⟩, kss2, hs, ne, fun kss' pm => ?_⟩
          have mem' : ∀ k, k ∈ kss' ↔ k ∈ kss := fun k => pm.mem_iff.trans (mem k)
          have lz : kss'.length ≤ 576 := by
            have q := NcSt.few_of kss' (asc3.map (· ++ [(n : Int)])) (pm.nodup_iff.mpr nd) fun k hk => by
              obtain ⟨row, hr, ht, as⟩ := p1 k ((mem' k).mp hk)
              exact asc_in as ht (er row hr).2.1 (er row hr).2.2
            rw [List.length_map, asc3_len] at q
            exact q
          refine ⟨line_of (by omega), lc_map (fun p => match p with | .tup xs => .tup xs.dropLast | q => q) (fun p hp k hk => ?_) ?_⟩
          · obtain ⟨row, hr, rfl⟩ := List.mem_map.mp hp
            simp (decide := true) only [startR, exists_and_left, at0, at1, at2, ix30, ix31, ix32, List.set_cons_zero, List.set_cons_succ, Option.some.injEq, MO.lst.injEq, P.int.injEq, P.tup.injEq, P.lst.injEq, exists_eq_left, exists_eq_left', exists_eq, updM_same, updM_updM, reduceCtorEq, List.length_map, List.map_cons, List.map_nil, List.length_cons, List.length_nil, Nat.reduceAdd, Nat.reduceSub, List.replicate_zero, List.replicate_succ, List.cons_append, List.nil_append, List.append_nil, List.append_assoc, Nat.sub_self, true_and, and_true, if_true, Bool.false_eq_true, if_false, dSeq, dNext, dIfS, dRet, dRetN, dAsg, dDrop, dVar, lk, dC, dCons, dNil, dTup, dLst, dLstM, dFz, dBin, dTest, asB, dChain, dTru, truW, dAnd, dOr, dNot, dAndV, dOrV, dNotV, dNeg, dIf, idxW, dNo, dSo, dCut, dCB, dCall, dCall0, int0, intW, isiW, put, gdName, gdSub, gdTup, gdCons, gdNil, dPar, dPar3, dRaise, EndsR, dLc, dLcM, iSeq, iTupD, iLst, iZipD, iEnumD, iRg1, iRg2, iStrD, wipeR, wipeR.unput, dFor, lenW, sqW, lsW, allW, anyW, sumW, tupCW, lstCW, lstCMW, absW, intCW, strCW, eqW, neW, isNonW, notNonW, nonB, addW, addMW, mulLW, inW, cutW, dRev, dAppC, dPop, dLRg1, dLRg2, dSplitC, dJoinC, dIsi2, tyN, isi, Option.isSome_some, Option.isSome_none, deref_int, deref_bl, deref_str, deref_non, deref_tup, deref_lst, ok_int, ok_bl, ok_non, peq_int, Bool.not_true, Bool.not_false, decide_eq_true_eq, true_or, or_true, false_or, or_false, false_and, and_false, not_true_eq_false, not_false_eq_true, Bool.not_eq_true', decide_eq_false_iff_not, ex_ins, dFld, dFldS, dMeth, dMeth0, dMake, dProp, dAugO, boolOW, intSW, MO.ins.injEq, bd_frame, bd_every, bd_lots, bd_now, bd_past, bd_put_now, bd_put_past, bd_no_renew, bd_no_undo, bd_length, ini1, ini2, ini3, ini4, ini5, ini_e2, ini_e3, ini_l3, ini_n1, ini_n2, ini_n3, ini_n4, tupI]
            rw [cut_butlast]
            exact hk
          · have ek : ((kss'.map tupI).map fun p => match p with | .tup xs => P.tup xs.dropLast | q => q) = (kss'.map List.dropLast).map tupI := by
              rw [List.map_map, List.map_map]
              refine List.map_congr_left fun k _ => ?_
              show P.tup (k.map P.int).dropLast = P.tup (k.dropLast.map P.int)
              rw [map_dropLast]
            rw [List.nil_append, ek]
            refine ⟨_, by rw [updM_ne (Ne.symm hba)]; exact hMa, ?_, hnx _ _ ⟨n + 1, lots ++ [kss'.map List.dropLast], _, _, _, _, lt, rfl, by rw [List.length_append, hl]; rfl, fun i ks e => ?_, ?_, fun j o' e => ?_, rfl⟩⟩
            · rw [List.length_map, hl]
              have := line_of (n := 17 + 1) (by decide)
              omega
            · rcases Nat.lt_or_ge i n with c | c
              · rw [List.getElem?_append_left (by omega)] at e
                exact hg i ks e
              · rw [List.getElem?_append_right (by omega)] at e
                have e0 : i - lots.length = 0 := by
                  have := (List.getElem?_eq_some_iff.mp e).1
                  rw [List.length_singleton] at this
                  omega
                rw [e0] at e
                obtain rfl : kss'.map List.dropLast = ks := Option.some.inj e
                obtain rfl : i = n := by omega
                refine ⟨fun lot hlot => ?_, fun row hr ht => ?_⟩
                · obtain ⟨k, hk, rfl⟩ := List.mem_map.mp hlot
                  obtain ⟨row, hr, ht, as⟩ := p1 k ((mem' k).mp hk)
                  obtain ⟨_, e2⟩ := asc_last as.1 ((as.2 _).mpr ht.1) fun x hx => ht.2 x ((as.2 x).mp hx)
                  have l1 := few_asc as.1 fun x hx => (as.2 x).mp hx
                  have l2 := (er row hr).2.1
                  exact ⟨by rw [List.length_dropLast]; omega, row, hr, ht, fun x => by rw [e2 x, as.2 x]⟩
                · obtain ⟨k, hk, as⟩ := p2 row hr ht
                  obtain ⟨_, e2⟩ := asc_last as.1 ((as.2 _).mpr ht.1) fun x hx => ht.2 x ((as.2 x).mp hx)
                  exact ⟨k.dropLast, List.mem_map.mpr ⟨k, (mem' k).mpr hk, rfl⟩, fun x => by rw [e2 x, as.2 x]⟩
            · rw [updM_same, List.map_append]; rfl
            · have hj : j ≠ a := fun z => by rw [z, ha] at e; cases e
              have hj2 : j ≠ b := fun z => by rw [← z, hMo j o' e] at hb; cases hb
              rw [updM_ne hj, updM_ne hj2]
              exact hMo j o' e
  · obtain ⟨n, lots, t2, t3, t4, t5, hn17, ex, hl, hg, hMa, hMo, rfl⟩ := hI
    have e17 : n = 17 := by
      rcases Nat.lt_or_ge n 17 with q | q
      · rw [show 17 - n = (17 - (n + 1)) + 1 by omega, iota_succ] at ex; cases ex
      · omega
    subst e17
    simp (decide := true) only [startR, exists_and_left, at0, at1, at2, ix30, ix31, ix32, List.set_cons_zero, List.set_cons_succ, Option.some.injEq, MO.lst.injEq, P.int.injEq, P.tup.injEq, P.lst.injEq, exists_eq_left, exists_eq_left', exists_eq, updM_same, updM_updM, reduceCtorEq, List.length_map, List.map_cons, List.map_nil, List.length_cons, List.length_nil, Nat.reduceAdd, Nat.reduceSub, List.replicate_zero, List.replicate_succ, List.cons_append, List.nil_append, List.append_nil, List.append_assoc, Nat.sub_self, true_and, and_true, if_true, Bool.false_eq_true, if_false, dSeq, dNext, dIfS, dRet, dRetN, dAsg, dDrop, dVar, lk, dC, dCons, dNil, dTup, dLst, dLstM, dFz, dBin, dTest, asB, dChain, dTru, truW, dAnd, dOr, dNot, dAndV, dOrV, dNotV, dNeg, dIf, idxW, dNo, dSo, dCut, dCB, dCall, dCall0, int0, intW, isiW, put, gdName, gdSub, gdTup, gdCons, gdNil, dPar, dPar3, dRaise, EndsR, dLc, dLcM, iSeq, iTupD, iLst, iZipD, iEnumD, iRg1, iRg2, iStrD, wipeR, wipeR.unput, dFor, lenW, sqW, lsW, allW, anyW, sumW, tupCW, lstCW, lstCMW, absW, intCW, strCW, eqW, neW, isNonW, notNonW, nonB, addW, addMW, mulLW, inW, cutW, dRev, dAppC, dPop, dLRg1, dLRg2, dSplitC, dJoinC, dIsi2, tyN, isi, Option.isSome_some, Option.isSome_none, deref_int, deref_bl, deref_str, deref_non, deref_tup, deref_lst, ok_int, ok_bl, ok_non, peq_int, Bool.not_true, Bool.not_false, decide_eq_true_eq, true_or, or_true, false_or, or_false, false_and, and_false, not_true_eq_false, not_false_eq_true, Bool.not_eq_true', decide_eq_false_iff_not, ex_ins, dFld, dFldS, dMeth, dMeth0, dMake, dProp, dAugO, boolOW, intSW, MO.ins.injEq, bd_frame, bd_every, bd_lots, bd_now, bd_past, bd_put_now, bd_put_past, bd_no_renew, bd_no_undo, bd_length, ini1, ini2, ini3, ini4, ini5, ini_e2, ini_e3, ini_l3, ini_n1, ini_n2, ini_n3, ini_n4, hMa]
    refine .inl ⟨M, fun j o q => ?_, h lots ⟨hl, hg⟩⟩
    have hj : j ≠ a := fun z => by rw [z, ha] at q; cases q
    rw [eraM_ne hj]; exact hMo j o q
end
end NC

end
section
set_option Elab.async false
set_option linter.all false
set_option maxRecDepth 100000
set_option maxHeartbeats 4000000
namespace NC
open PySem PySem.Spec PyProof.Rows L2 RZ
section
variable {Pr : Program} {w : World} {K : PySem.W.Frag} {mg : Str → Option Value} {base : Heap}
def sp_need_few (K : PySem.W.Frag) : DSp := fun ds M Φ Ψ => ∃ L, ds = [sysP L] ∧ SysOk L ∧ if 4 < cols L then Ψ (.ref (He.ga K "TooMany")) [(("limit" : Str), P.int 4)] M else Φ .non M
theorem ok_need_few (T : Top K mg) (hP : Pr = PR := by rfl) : Fx Pr w K mg base 2 "need_few" ["system"] (sp_need_few K) := by
  subst hP
  refine fx_of T.d_need_few sc_need_few (fun _ _ _ _ _ _ us hl => match us, hl with | [_], _ => rfl) (fun f cdv A outer s H E Ψ hr tk => ⟨_, (dss_one (ds_if (dt_cmp opd_gt (de_callB cd_len rfl T.m_len (by decide +kernel) (da_cons (de_idx (de_var (pv 0)) de_int) da_nil)) (de_gint rfl T.c_MOST_COLUMNS_colourings) (nomark _)) (dss_one (ds_raiseM T.t_TooMany.1 tmSt_ok T.g_TooMany (hr.mono (by decide)) rfl tk rfl (de_gint rfl T.c_MOST_COLUMNS_colourings))) dss_nil)), ?_⟩)
  intro ds M Φ hn h
  obtain ⟨L, rfl, so, h⟩ := h
  obtain ⟨l0, L0, eL, ec, ea⟩ := so.hd
  simp (decide := true) only [startR, exists_and_left, at0, at1, at2, ix30, ix31, ix32, List.set_cons_zero, List.set_cons_succ, Option.some.injEq, MO.lst.injEq, P.int.injEq, P.tup.injEq, P.lst.injEq, exists_eq_left, exists_eq_left', exists_eq, updM_same, updM_updM, reduceCtorEq, List.length_map, List.map_cons, List.map_nil, List.length_cons, List.length_nil, Nat.reduceAdd, Nat.reduceSub, List.replicate_zero, List.replicate_succ, List.cons_append, List.nil_append, List.append_nil, List.append_assoc, Nat.sub_self, true_and, and_true, if_true, Bool.false_eq_true, if_false, dSeq, dNext, dIfS, dRet, dRetN, dAsg, dDrop, dVar, lk, dC, dCons, dNil, dTup, dLst, dLstM, dFz, dBin, dTest, asB, dChain, dTru, truW, dAnd, dOr, dNot, dAndV, dOrV, dNotV, dNeg, dIf, idxW, dNo, dSo, dCut, dCB, dCall, dCall0, int0, intW, isiW, put, gdName, gdSub, gdTup, gdCons, gdNil, dPar, dPar3, dRaise, EndsR, dLc, dLcM, iSeq, iTupD, iLst, iZipD, iEnumD, iRg1, iRg2, iStrD, wipeR, wipeR.unput, dFor, lenW, sqW, lsW, allW, anyW, sumW, tupCW, lstCW, lstCMW, absW, intCW, strCW, eqW, neW, isNonW, notNonW, nonB, addW, addMW, mulLW, inW, cutW, dRev, dAppC, dPop, dLRg1, dLRg2, dSplitC, dJoinC, dIsi2, tyN, isi, Option.isSome_some, Option.isSome_none, deref_int, deref_bl, deref_str, deref_non, deref_tup, deref_lst, ok_int, ok_bl, ok_non, peq_int, Bool.not_true, Bool.not_false, decide_eq_true_eq, true_or, or_true, false_or, or_false, false_and, and_false, not_true_eq_false, not_false_eq_true, Bool.not_eq_true', decide_eq_false_iff_not, ex_ins, dFld, dFldS, dMeth, dMeth0, dMake, dProp, dAugO, boolOW, intSW, MO.ins.injEq, bd_frame, bd_every, bd_lots, bd_now, bd_past, bd_put_now, bd_put_past, bd_no_renew, bd_no_undo, bd_length, ini1, ini2, ini3, ini4, ini5, ini_e2, ini_e3, ini_l3, ini_n1, ini_n2, ini_n3, ini_n4, sysP]
  refine ⟨tupI l0, ea, ?_⟩
  simp (decide := true) only [startR, exists_and_left, at0, at1, at2, ix30, ix31, ix32, List.set_cons_zero, List.set_cons_succ, Option.some.injEq, MO.lst.injEq, P.int.injEq, P.tup.injEq, P.lst.injEq, exists_eq_left, exists_eq_left', exists_eq, updM_same, updM_updM, reduceCtorEq, List.length_map, List.map_cons, List.map_nil, List.length_cons, List.length_nil, Nat.reduceAdd, Nat.reduceSub, List.replicate_zero, List.replicate_succ, List.cons_append, List.nil_append, List.append_nil, List.append_assoc, Nat.sub_self, true_and, and_true, if_true, Bool.false_eq_true, if_false, dSeq, dNext, dIfS, dRet, dRetN, dAsg, dDrop, dVar, lk, dC, dCons, dNil, dTup, dLst, dLstM, dFz, dBin, dTest, asB, dChain, dTru, truW, dAnd, dOr, dNot, dAndV, dOrV, dNotV, dNeg, dIf, idxW, dNo, dSo, dCut, dCB, dCall, dCall0, int0, intW, isiW, put, gdName, gdSub, gdTup, gdCons, gdNil, dPar, dPar3, dRaise, EndsR, dLc, dLcM, iSeq, iTupD, iLst, iZipD, iEnumD, iRg1, iRg2, iStrD, wipeR, wipeR.unput, dFor, lenW, sqW, lsW, allW, anyW, sumW, tupCW, lstCW, lstCMW, absW, intCW, strCW, eqW, neW, isNonW, notNonW, nonB, addW, addMW, mulLW, inW, cutW, dRev, dAppC, dPop, dLRg1, dLRg2, dSplitC, dJoinC, dIsi2, tyN, isi, Option.isSome_some, Option.isSome_none, deref_int, deref_bl, deref_str, deref_non, deref_tup, deref_lst, ok_int, ok_bl, ok_non, peq_int, Bool.not_true, Bool.not_false, decide_eq_true_eq, true_or, or_true, false_or, or_false, false_and, and_false, not_true_eq_false, not_false_eq_true, Bool.not_eq_true', decide_eq_false_iff_not, ex_ins, dFld, dFldS, dMeth, dMeth0, dMake, dProp, dAugO, boolOW, intSW, MO.ins.injEq, bd_frame, bd_every, bd_lots, bd_now, bd_past, bd_put_now, bd_put_past, bd_no_renew, bd_no_undo, bd_length, ini1, ini2, ini3, ini4, ini5, ini_e2, ini_e3, ini_l3, ini_n1, ini_n2, ini_n3, ini_n4, tupI, ec, dRaiseM]
  by_cases q : 4 < cols L
  · rw [if_pos q] at h
    rw [if_pos (by omega)]
    exact h
  · rw [if_neg q] at h
    rw [if_neg (by omega)]
    exact Lt.of h
end
end NC

end
section
set_option Elab.async false
set_option linter.all false
set_option maxRecDepth 100000
set_option maxHeartbeats 4000000
namespace NC
open PySem PySem.Spec PyProof.Rows L2 RZ
section
variable {Pr : Program} {w : World} {K : PySem.W.Frag} {mg : Str → Option Value} {base : Heap}
def sp_is_within : DSp := fun ds M Φ Ψ => match ds with
  | [v, .int lo, .int hi] => fitP v = true ∧ Φ (.bl (within v lo hi)) M
  | _ => False
theorem ok_is_within (T : Top K mg) : Fx Pr w K mg base 1 "is_within" ["value", "low", "high"] sp_is_within := by
  refine fx_of T.d_is_within sc_is_within (fun _ _ _ _ _ _ us hl => match us, hl with | [_, _, _], _ => rfl) (fun f cdv A outer s H E Ψ hr tk => ⟨_, (dss_one (ds_ret (de_and (de_callB cd_isi rfl T.m_isinstance (by decide +kernel) (da_cons (de_var (pv 0)) (da_cons (de_gty (n := "int") rfl T.m_int (by decide +kernel)) da_nil))) (de_and (de_not (de_callB cd_isi rfl T.m_isinstance (by decide +kernel) (da_cons (de_var (pv 0)) (da_cons (de_gty (n := "bool") rfl T.m_bool (by decide +kernel)) da_nil)))) (de_one (de_chain opd_le opd_le (de_var (pv 1)) (de_var (pv 0)) (de_var (pv 2)))))))), ?_⟩)
  intro ds M Φ hn h
  match ds, h with
  | [v, .int lo, .int hi], ⟨f, h⟩ =>
    simp only [startR, exists_and_left, at0, at1, at2, ix30, ix31, ix32, List.set_cons_zero, List.set_cons_succ, Option.some.injEq, MO.lst.injEq, P.int.injEq, P.tup.injEq, P.lst.injEq, exists_eq_left, exists_eq_left', exists_eq, updM_same, updM_updM, reduceCtorEq, List.length_map, List.map_cons, List.map_nil, List.length_cons, List.length_nil, Nat.reduceAdd, Nat.reduceSub, List.replicate_zero, List.replicate_succ, List.cons_append, List.nil_append, List.append_nil, List.append_assoc, Nat.sub_self, true_and, and_true, if_true, Bool.false_eq_true, if_false, dSeq, dNext, dIfS, dRet, dRetN, dAsg, dDrop, dVar, lk, dC, dCons, dNil, dTup, dLst, dLstM, dFz, dBin, dTest, asB, dChain, dTru, truW, dAnd, dOr, dNot, dAndV, dOrV, dNotV, dNeg, dIf, idxW, dNo, dSo, dCut, dCB, dCall, dCall0, int0, intW, isiW, put, gdName, gdSub, gdTup, gdCons, gdNil, dPar, dPar3, dRaise, EndsR, dLc, dLcM, iSeq, iTupD, iLst, iZipD, iEnumD, iRg1, iRg2, iStrD, wipeR, wipeR.unput, dFor, lenW, sqW, lsW, allW, anyW, sumW, tupCW, lstCW, lstCMW, absW, intCW, strCW, eqW, neW, isNonW, notNonW, nonB, addW, addMW, mulLW, inW, cutW, dRev, dAppC, dPop, dLRg1, dLRg2, dSplitC, dJoinC, dIsi2, tyN, isi, Option.isSome_some, Option.isSome_none, deref_int, deref_bl, deref_str, deref_non, deref_tup, deref_lst, ok_int, ok_bl, ok_non, peq_int, Bool.not_true, Bool.not_false, decide_eq_true_eq, true_or, or_true, false_or, or_false, false_and, and_false, not_true_eq_false, not_false_eq_true, Bool.not_eq_true', decide_eq_false_iff_not, ex_ins, dFld, dFldS, dMeth, dMeth0, dMake, dProp, dAugO, boolOW, intSW, MO.ins.injEq, bd_frame, bd_every, bd_lots, bd_now, bd_past, bd_put_now, bd_put_past, bd_no_renew, bd_no_undo, bd_length, ini1, ini2, ini3, ini4, ini5, ini_e2, ini_e3, ini_l3, ini_n1, ini_n2, ini_n3, ini_n4]
    have h := Lt.of h
    cases v <;> first | (cases f; done) | skip
    all_goals simp (decide := true) [tyN, isi, within] at h ⊢
    all_goals first | exact h | skip
    split
    · rename_i q
      simpa [q] using h
    · rename_i q
      simpa [q] using h
end
end NC

end
section
set_option Elab.async false
set_option linter.all false
set_option maxRecDepth 100000
set_option maxHeartbeats 4000000
namespace NC
open PySem PySem.Spec PyProof.Rows L2 RZ
section
variable {Pr : Program} {w : World} {K : PySem.W.Frag} {mg : Str → Option Value} {base : Heap}
def sp_is_equation : DSp := fun ds M Φ Ψ => match ds with
  | [v] => (fitP v = true) ∧ Φ (.bl (isEq v)) M
  | _ => False
theorem ok_is_equation (T : Top K mg) : Fx Pr w K mg base 2 "is_equation" ["value"] sp_is_equation := by
  refine fx_of T.d_is_equation sc_is_equation (fun _ _ _ _ _ _ us hl => match us, hl with | [_], _ => rfl) (fun f cdv A outer s H E Ψ hr tk => ⟨_, (dss_cons (ds_if (DW.dt (dw_or (dt_not (dt_tru (de_callB cd_isi rfl T.m_isinstance (by decide +kernel) (da_cons (de_var (pv 0)) (da_cons (de_gty (n := "tuple") rfl T.m_tuple (by decide +kernel)) da_nil))))) (dw_or1 (dt_not (dt_chain opd_le opd_le de_int (de_callB cd_len rfl T.m_len (by decide +kernel) (da_cons (de_var (pv 0)) da_nil)) (de_gint rfl T.c_MOST_COLUMNS_systems)))))) (dss_one (ds_ret de_bl)) dss_nil) (dss_one (ds_ret (de_callB (cd_all rfl) rfl T.m_all (by decide +kernel) (da_cons (de_lc (own := [("entry", 1)]) rfl sc_is_equation.nd (di_seq (de_var (pv 0))) (blkOk_by (sc := defScope s_is_equation) (own := [("entry", 1)]) (N := ["value", "entry"]) (by decide +kernel)) (fun _ _ _ _ _ => (dgc_name (pg_name (i := 1) sc_is_equation.nd rfl (by first | exact Or.inl rfl | exact Or.inr rfl)) (by decide))) (fun _ _ _ _ _ => dts_nil) (fun _ _ _ _ _ => (de_callF (ok_is_within T) (hr.mono (by decide)) rfl takesN (da_cons (de_var (pv 1)) (da_cons (de_bin opd_sub de_int (de_gint rfl T.c_MOST_ENTRY)) (da_cons (de_gint rfl T.c_MOST_ENTRY) da_nil)))))) da_nil))))), ?_⟩)
  intro ds M Φ hn h
  match ds, h with
  | [v], ⟨f, h⟩ =>
    have h := Lt.of h
    cases v with
    | tup xs =>
      simp (decide := true) only [startR, exists_and_left, at0, at1, at2, ix30, ix31, ix32, List.set_cons_zero, List.set_cons_succ, Option.some.injEq, MO.lst.injEq, P.int.injEq, P.tup.injEq, P.lst.injEq, exists_eq_left, exists_eq_left', exists_eq, updM_same, updM_updM, reduceCtorEq, List.length_map, List.map_cons, List.map_nil, List.length_cons, List.length_nil, Nat.reduceAdd, Nat.reduceSub, List.replicate_zero, List.replicate_succ, List.cons_append, List.nil_append, List.append_nil, List.append_assoc, Nat.sub_self, true_and, and_true, if_true, Bool.false_eq_true, if_false, dSeq, dNext, dIfS, dRet, dRetN, dAsg, dDrop, dVar, lk, dC, dCons, dNil, dTup, dLst, dLstM, dFz, dBin, dTest, asB, dChain, dTru, truW, dAnd, dOr, dNot, dAndV, dOrV, dNotV, dNeg, dIf, idxW, dNo, dSo, dCut, dCB, dCall, dCall0, int0, intW, isiW, put, gdName, gdSub, gdTup, gdCons, gdNil, dPar, dPar3, dRaise, EndsR, dLc, dLcM, iSeq, iTupD, iLst, iZipD, iEnumD, iRg1, iRg2, iStrD, wipeR, wipeR.unput, dFor, lenW, sqW, lsW, allW, anyW, sumW, tupCW, lstCW, lstCMW, absW, intCW, strCW, eqW, neW, isNonW, notNonW, nonB, addW, addMW, mulLW, inW, cutW, dRev, dAppC, dPop, dLRg1, dLRg2, dSplitC, dJoinC, dIsi2, tyN, isi, Option.isSome_some, Option.isSome_none, deref_int, deref_bl, deref_str, deref_non, deref_tup, deref_lst, ok_int, ok_bl, ok_non, peq_int, Bool.not_true, Bool.not_false, decide_eq_true_eq, true_or, or_true, false_or, or_false, false_and, and_false, not_true_eq_false, not_false_eq_true, Bool.not_eq_true', decide_eq_false_iff_not, ex_ins, dFld, dFldS, dMeth, dMeth0, dMake, dProp, dAugO, boolOW, intSW, MO.ins.injEq, bd_frame, bd_every, bd_lots, bd_now, bd_past, bd_put_now, bd_put_past, bd_no_renew, bd_no_undo, bd_length, ini1, ini2, ini3, ini4, ini5, ini_e2, ini_e3, ini_l3, ini_n1, ini_n2, ini_n3, ini_n4]
      split
      · rename_i q1
        split
        · rename_i q2
          have e : isEq (.tup xs) = false := by simp only [isEq, q1, q2, decide_true, decide_false, Bool.and_false, Bool.false_and]
          rw [e] at h; exact h
        · rename_i q2
          refine ⟨line_of (by omega), lc_map (fun x => .bl (within x (0 - 9) 9)) (fun x hx k hk => ?_) ?_⟩
          · simp only [startR, exists_and_left, at0, at1, at2, ix30, ix31, ix32, List.set_cons_zero, List.set_cons_succ, Option.some.injEq, MO.lst.injEq, P.int.injEq, P.tup.injEq, P.lst.injEq, exists_eq_left, exists_eq_left', exists_eq, updM_same, updM_updM, reduceCtorEq, List.length_map, List.map_cons, List.map_nil, List.length_cons, List.length_nil, Nat.reduceAdd, Nat.reduceSub, List.replicate_zero, List.replicate_succ, List.cons_append, List.nil_append, List.append_nil, List.append_assoc, Nat.sub_self, true_and, and_true, if_true, Bool.false_eq_true, if_false, dSeq, dNext, dIfS, dRet, dRetN, dAsg, dDrop, dVar, lk, dC, dCons, dNil, dTup, dLst, dLstM, dFz, dBin, dTest, asB, dChain, dTru, truW, dAnd, dOr, dNot, dAndV, dOrV, dNotV, dNeg, dIf, idxW, dNo, dSo, dCut, dCB, dCall, dCall0, int0, intW, isiW, put, gdName, gdSub, gdTup, gdCons, gdNil, dPar, dPar3, dRaise, EndsR, dLc, dLcM, iSeq, iTupD, iLst, iZipD, iEnumD, iRg1, iRg2, iStrD, wipeR, wipeR.unput, dFor, lenW, sqW, lsW, allW, anyW, sumW, tupCW, lstCW, lstCMW, absW, intCW, strCW, eqW, neW, isNonW, notNonW, nonB, addW, addMW, mulLW, inW, cutW, dRev, dAppC, dPop, dLRg1, dLRg2, dSplitC, dJoinC, dIsi2, tyN, isi, Option.isSome_some, Option.isSome_none, deref_int, deref_bl, deref_str, deref_non, deref_tup, deref_lst, ok_int, ok_bl, ok_non, peq_int, Bool.not_true, Bool.not_false, decide_eq_true_eq, true_or, or_true, false_or, or_false, false_and, and_false, not_true_eq_false, not_false_eq_true, Bool.not_eq_true', decide_eq_false_iff_not, ex_ins, dFld, dFldS, dMeth, dMeth0, dMake, dProp, dAugO, boolOW, intSW, MO.ins.injEq, bd_frame, bd_every, bd_lots, bd_now, bd_past, bd_put_now, bd_put_past, bd_no_renew, bd_no_undo, bd_length, ini1, ini2, ini3, ini4, ini5, ini_e2, ini_e3, ini_l3, ini_n1, ini_n2, ini_n3, ini_n4]
            exact ⟨fitPs_mem f hx, hk⟩
          · refine ⟨_, bmap _ _, ?_⟩
            have e : isEq (.tup xs) = xs.all fun x => within x (0 - 9) 9 := by simp only [isEq, q1, Classical.not_not.mp q2, decide_true, Bool.true_and]
            rw [all_id, ← e]; exact h
      · rename_i q1
        have e : isEq (.tup xs) = false := by simp only [isEq, q1, decide_false, Bool.false_and]
        rw [e] at h; exact h
    | _ => first | (cases f; done) | (simp (decide := true) only [startR, exists_and_left, at0, at1, at2, ix30, ix31, ix32, List.set_cons_zero, List.set_cons_succ, Option.some.injEq, MO.lst.injEq, P.int.injEq, P.tup.injEq, P.lst.injEq, exists_eq_left, exists_eq_left', exists_eq, updM_same, updM_updM, reduceCtorEq, List.length_map, List.map_cons, List.map_nil, List.length_cons, List.length_nil, Nat.reduceAdd, Nat.reduceSub, List.replicate_zero, List.replicate_succ, List.cons_append, List.nil_append, List.append_nil, List.append_assoc, Nat.sub_self, true_and, and_true, if_true, Bool.false_eq_true, if_false, dSeq, dNext, dIfS, dRet, dRetN, dAsg, dDrop, dVar, lk, dC, dCons, dNil, dTup, dLst, dLstM, dFz, dBin, dTest, asB, dChain, dTru, truW, dAnd, dOr, dNot, dAndV, dOrV, dNotV, dNeg, dIf, idxW, dNo, dSo, dCut, dCB, dCall, dCall0, int0, intW, isiW, put, gdName, gdSub, gdTup, gdCons, gdNil, dPar, dPar3, dRaise, EndsR, dLc, dLcM, iSeq, iTupD, iLst, iZipD, iEnumD, iRg1, iRg2, iStrD, wipeR, wipeR.unput, dFor, lenW, sqW, lsW, allW, anyW, sumW, tupCW, lstCW, lstCMW, absW, intCW, strCW, eqW, neW, isNonW, notNonW, nonB, addW, addMW, mulLW, inW, cutW, dRev, dAppC, dPop, dLRg1, dLRg2, dSplitC, dJoinC, dIsi2, tyN, isi, Option.isSome_some, Option.isSome_none, deref_int, deref_bl, deref_str, deref_non, deref_tup, deref_lst, ok_int, ok_bl, ok_non, peq_int, Bool.not_true, Bool.not_false, decide_eq_true_eq, true_or, or_true, false_or, or_false, false_and, and_false, not_true_eq_false, not_false_eq_true, Bool.not_eq_true', decide_eq_false_iff_not, ex_ins, dFld, dFldS, dMeth, dMeth0, dMake, dProp, dAugO, boolOW, intSW, MO.ins.injEq, bd_frame, bd_every, bd_lots, bd_now, bd_past, bd_put_now, bd_put_past, bd_no_renew, bd_no_undo, bd_length, ini1, ini2, ini3, ini4, ini5, ini_e2, ini_e3, ini_l3, ini_n1, ini_n2, ini_n3, ini_n4]; exact h)
end
end NC

end
section
set_option Elab.async false
set_option linter.all false
set_option maxRecDepth 100000
set_option maxHeartbeats 4000000
namespace NC
open PySem PySem.Spec PyProof.Rows L2 RZ
section
variable {Pr : Program} {w : World} {K : PySem.W.Frag} {mg : Str → Option Value} {base : Heap}
def sp_is_system_value : DSp := fun ds M Φ Ψ => match ds with
  | [v] => (fitP v = true) ∧ Φ (.bl (isSys v)) M
  | _ => False
theorem ok_is_system_value (T : Top K mg) : Fx Pr w K mg base 3 "is_system_value" ["value"] sp_is_system_value := by
  refine fx_of T.d_is_system_value sc_is_system_value (fun _ _ _ _ _ _ us hl => match us, hl with | [_], _ => rfl) (fun f cdv A outer s H E Ψ hr tk => ⟨_, (dss_cons (ds_if (DW.dt (dw_or (dt_not (dt_tru (de_callB cd_isi rfl T.m_isinstance (by decide +kernel) (da_cons (de_var (pv 0)) (da_cons (de_gty (n := "tuple") rfl T.m_tuple (by decide +kernel)) da_nil))))) (dw_or1 (dt_not (dt_chain opd_le opd_le de_int (de_callB cd_len rfl T.m_len (by decide +kernel) (da_cons (de_var (pv 0)) da_nil)) (de_gint rfl T.c_MOST_EQUATIONS)))))) (dss_one (ds_ret de_bl)) dss_nil) (dss_one (ds_ret (de_and (de_callB (cd_all rfl) rfl T.m_all (by decide +kernel) (da_cons (de_lc (own := [("line", 1)]) rfl sc_is_system_value.nd (di_seq (de_var (pv 0))) (blkOk_by (sc := defScope s_is_system_value) (own := [("line", 1)]) (N := ["value", "line"]) (by decide +kernel)) (fun _ _ _ _ _ => (dgc_name (pg_name (i := 1) sc_is_system_value.nd rfl (by first | exact Or.inl rfl | exact Or.inr rfl)) (by decide))) (fun _ _ _ _ _ => dts_nil) (fun _ _ _ _ _ => (de_callF (ok_is_equation T) (hr.mono (by decide)) rfl takesN (da_cons (de_var (pv 1)) da_nil)))) da_nil)) (de_one (de_callB (cd_all rfl) rfl T.m_all (by decide +kernel) (da_cons (de_lc (own := [("line", 1)]) rfl sc_is_system_value.nd (di_seq (de_var (pv 0))) (blkOk_by (sc := defScope s_is_system_value) (own := [("line", 1)]) (N := ["value", "line"]) (by decide +kernel)) (fun _ _ _ _ _ => (dgc_name (pg_name (i := 1) sc_is_system_value.nd rfl (by first | exact Or.inl rfl | exact Or.inr rfl)) (by decide))) (fun _ _ _ _ _ => dts_nil) (fun _ _ _ _ _ => (de_cmp (opd_eq hr.units) (de_callB cd_len rfl T.m_len (by decide +kernel) (da_cons (de_var (pv 1)) da_nil)) (de_callB cd_len rfl T.m_len (by decide +kernel) (da_cons (de_idx (de_var (pv 0)) de_int) da_nil)) (nomark _)))) da_nil))))))), ?_⟩)
  intro ds M Φ hn h
  match ds, h with
  | [v], ⟨f, h⟩ =>
    have h := Lt.of h
    cases v with
    | tup xs =>
      simp (decide := true) only [startR, exists_and_left, at0, at1, at2, ix30, ix31, ix32, List.set_cons_zero, List.set_cons_succ, Option.some.injEq, MO.lst.injEq, P.int.injEq, P.tup.injEq, P.lst.injEq, exists_eq_left, exists_eq_left', exists_eq, updM_same, updM_updM, reduceCtorEq, List.length_map, List.map_cons, List.map_nil, List.length_cons, List.length_nil, Nat.reduceAdd, Nat.reduceSub, List.replicate_zero, List.replicate_succ, List.cons_append, List.nil_append, List.append_nil, List.append_assoc, Nat.sub_self, true_and, and_true, if_true, Bool.false_eq_true, if_false, dSeq, dNext, dIfS, dRet, dRetN, dAsg, dDrop, dVar, lk, dC, dCons, dNil, dTup, dLst, dLstM, dFz, dBin, dTest, asB, dChain, dTru, truW, dAnd, dOr, dNot, dAndV, dOrV, dNotV, dNeg, dIf, idxW, dNo, dSo, dCut, dCB, dCall, dCall0, int0, intW, isiW, put, gdName, gdSub, gdTup, gdCons, gdNil, dPar, dPar3, dRaise, EndsR, dLc, dLcM, iSeq, iTupD, iLst, iZipD, iEnumD, iRg1, iRg2, iStrD, wipeR, wipeR.unput, dFor, lenW, sqW, lsW, allW, anyW, sumW, tupCW, lstCW, lstCMW, absW, intCW, strCW, eqW, neW, isNonW, notNonW, nonB, addW, addMW, mulLW, inW, cutW, dRev, dAppC, dPop, dLRg1, dLRg2, dSplitC, dJoinC, dIsi2, tyN, isi, Option.isSome_some, Option.isSome_none, deref_int, deref_bl, deref_str, deref_non, deref_tup, deref_lst, ok_int, ok_bl, ok_non, peq_int, Bool.not_true, Bool.not_false, decide_eq_true_eq, true_or, or_true, false_or, or_false, false_and, and_false, not_true_eq_false, not_false_eq_true, Bool.not_eq_true', decide_eq_false_iff_not, ex_ins, dFld, dFldS, dMeth, dMeth0, dMake, dProp, dAugO, boolOW, intSW, MO.ins.injEq, bd_frame, bd_every, bd_lots, bd_now, bd_past, bd_put_now, bd_put_past, bd_no_renew, bd_no_undo, bd_length, ini1, ini2, ini3, ini4, ini5, ini_e2, ini_e3, ini_l3, ini_n1, ini_n2, ini_n3, ini_n4]
      split
      · rename_i q1
        split
        · rename_i q2
          have e : isSys (.tup xs) = false := by simp only [isSys, q1, q2, decide_true, decide_false, Bool.and_false, Bool.false_and]
          rw [e] at h; exact h
        · rename_i q2
          have e : isSys (.tup xs) = (xs.all isEq && xs.all fun x => decide ((lenP x : Int) = (lenP (xs.headD .non) : Int))) := by simp only [isSys, q1, Classical.not_not.mp q2, decide_true, Bool.true_and]
          rw [e] at h
          refine ⟨line_of (by omega), lc_map (fun x => .bl (isEq x)) (fun x hx k hk => ?_) ?_⟩
          · simp only [startR, exists_and_left, at0, at1, at2, ix30, ix31, ix32, List.set_cons_zero, List.set_cons_succ, Option.some.injEq, MO.lst.injEq, P.int.injEq, P.tup.injEq, P.lst.injEq, exists_eq_left, exists_eq_left', exists_eq, updM_same, updM_updM, reduceCtorEq, List.length_map, List.map_cons, List.map_nil, List.length_cons, List.length_nil, Nat.reduceAdd, Nat.reduceSub, List.replicate_zero, List.replicate_succ, List.cons_append, List.nil_append, List.append_nil, List.append_assoc, Nat.sub_self, true_and, and_true, if_true, Bool.false_eq_true, if_false, dSeq, dNext, dIfS, dRet, dRetN, dAsg, dDrop, dVar, lk, dC, dCons, dNil, dTup, dLst, dLstM, dFz, dBin, dTest, asB, dChain, dTru, truW, dAnd, dOr, dNot, dAndV, dOrV, dNotV, dNeg, dIf, idxW, dNo, dSo, dCut, dCB, dCall, dCall0, int0, intW, isiW, put, gdName, gdSub, gdTup, gdCons, gdNil, dPar, dPar3, dRaise, EndsR, dLc, dLcM, iSeq, iTupD, iLst, iZipD, iEnumD, iRg1, iRg2, iStrD, wipeR, wipeR.unput, dFor, lenW, sqW, lsW, allW, anyW, sumW, tupCW, lstCW, lstCMW, absW, intCW, strCW, eqW, neW, isNonW, notNonW, nonB, addW, addMW, mulLW, inW, cutW, dRev, dAppC, dPop, dLRg1, dLRg2, dSplitC, dJoinC, dIsi2, tyN, isi, Option.isSome_some, Option.isSome_none, deref_int, deref_bl, deref_str, deref_non, deref_tup, deref_lst, ok_int, ok_bl, ok_non, peq_int, Bool.not_true, Bool.not_false, decide_eq_true_eq, true_or, or_true, false_or, or_false, false_and, and_false, not_true_eq_false, not_false_eq_true, Bool.not_eq_true', decide_eq_false_iff_not, ex_ins, dFld, dFldS, dMeth, dMeth0, dMake, dProp, dAugO, boolOW, intSW, MO.ins.injEq, bd_frame, bd_every, bd_lots, bd_now, bd_past, bd_put_now, bd_put_past, bd_no_renew, bd_no_undo, bd_length, ini1, ini2, ini3, ini4, ini5, ini_e2, ini_e3, ini_l3, ini_n1, ini_n2, ini_n3, ini_n4]
            exact ⟨fitPs_mem f hx, hk⟩
          · refine ⟨_, bmap _ _, ?_⟩
            rw [all_id]
            cases q3 : xs.all isEq with
            | false => rw [q3] at h; exact h
            | true =>
              rw [q3, Bool.true_and] at h
              refine ⟨line_of (by omega), lc_map (fun x => .bl (decide ((lenP x : Int) = (lenP (xs.headD .non) : Int)))) (fun x hx k hk => ?_) ?_⟩
              · obtain ⟨l, e1, _⟩ := isEq_of (List.all_eq_true.mp q3 x hx)
                cases xs with
                | nil => cases hx
                | cons y ys =>
                  obtain ⟨l2, e2, _⟩ := isEq_of (List.all_eq_true.mp q3 y List.mem_cons_self)
                  subst e1 e2
                  simp only [startR, exists_and_left, at0, at1, at2, ix30, ix31, ix32, List.set_cons_zero, List.set_cons_succ, Option.some.injEq, MO.lst.injEq, P.int.injEq, P.tup.injEq, P.lst.injEq, exists_eq_left, exists_eq_left', exists_eq, updM_same, updM_updM, reduceCtorEq, List.length_map, List.map_cons, List.map_nil, List.length_cons, List.length_nil, Nat.reduceAdd, Nat.reduceSub, List.replicate_zero, List.replicate_succ, List.cons_append, List.nil_append, List.append_nil, List.append_assoc, Nat.sub_self, true_and, and_true, if_true, Bool.false_eq_true, if_false, dSeq, dNext, dIfS, dRet, dRetN, dAsg, dDrop, dVar, lk, dC, dCons, dNil, dTup, dLst, dLstM, dFz, dBin, dTest, asB, dChain, dTru, truW, dAnd, dOr, dNot, dAndV, dOrV, dNotV, dNeg, dIf, idxW, dNo, dSo, dCut, dCB, dCall, dCall0, int0, intW, isiW, put, gdName, gdSub, gdTup, gdCons, gdNil, dPar, dPar3, dRaise, EndsR, dLc, dLcM, iSeq, iTupD, iLst, iZipD, iEnumD, iRg1, iRg2, iStrD, wipeR, wipeR.unput, dFor, lenW, sqW, lsW, allW, anyW, sumW, tupCW, lstCW, lstCMW, absW, intCW, strCW, eqW, neW, isNonW, notNonW, nonB, addW, addMW, mulLW, inW, cutW, dRev, dAppC, dPop, dLRg1, dLRg2, dSplitC, dJoinC, dIsi2, tyN, isi, Option.isSome_some, Option.isSome_none, deref_int, deref_bl, deref_str, deref_non, deref_tup, deref_lst, ok_int, ok_bl, ok_non, peq_int, Bool.not_true, Bool.not_false, decide_eq_true_eq, true_or, or_true, false_or, or_false, false_and, and_false, not_true_eq_false, not_false_eq_true, Bool.not_eq_true', decide_eq_false_iff_not, ex_ins, dFld, dFldS, dMeth, dMeth0, dMake, dProp, dAugO, boolOW, intSW, MO.ins.injEq, bd_frame, bd_every, bd_lots, bd_now, bd_past, bd_put_now, bd_put_past, bd_no_renew, bd_no_undo, bd_length, ini1, ini2, ini3, ini4, ini5, ini_e2, ini_e3, ini_l3, ini_n1, ini_n2, ini_n3, ini_n4, tupI]
                  have hk : k (P.bl (decide ((l.length : Int) = (l2.length : Int)))) M := by simpa only [lenP, tupI, List.length_map, List.headD] using hk
                  exact hk
              · exact ⟨_, bmap _ _, by rw [all_id]; exact h⟩
      · rename_i q1
        have e : isSys (.tup xs) = false := by simp only [isSys, q1, decide_false, Bool.false_and]
        rw [e] at h; exact h
    | _ => first | (cases f; done) | (simp (decide := true) only [startR, exists_and_left, at0, at1, at2, ix30, ix31, ix32, List.set_cons_zero, List.set_cons_succ, Option.some.injEq, MO.lst.injEq, P.int.injEq, P.tup.injEq, P.lst.injEq, exists_eq_left, exists_eq_left', exists_eq, updM_same, updM_updM, reduceCtorEq, List.length_map, List.map_cons, List.map_nil, List.length_cons, List.length_nil, Nat.reduceAdd, Nat.reduceSub, List.replicate_zero, List.replicate_succ, List.cons_append, List.nil_append, List.append_nil, List.append_assoc, Nat.sub_self, true_and, and_true, if_true, Bool.false_eq_true, if_false, dSeq, dNext, dIfS, dRet, dRetN, dAsg, dDrop, dVar, lk, dC, dCons, dNil, dTup, dLst, dLstM, dFz, dBin, dTest, asB, dChain, dTru, truW, dAnd, dOr, dNot, dAndV, dOrV, dNotV, dNeg, dIf, idxW, dNo, dSo, dCut, dCB, dCall, dCall0, int0, intW, isiW, put, gdName, gdSub, gdTup, gdCons, gdNil, dPar, dPar3, dRaise, EndsR, dLc, dLcM, iSeq, iTupD, iLst, iZipD, iEnumD, iRg1, iRg2, iStrD, wipeR, wipeR.unput, dFor, lenW, sqW, lsW, allW, anyW, sumW, tupCW, lstCW, lstCMW, absW, intCW, strCW, eqW, neW, isNonW, notNonW, nonB, addW, addMW, mulLW, inW, cutW, dRev, dAppC, dPop, dLRg1, dLRg2, dSplitC, dJoinC, dIsi2, tyN, isi, Option.isSome_some, Option.isSome_none, deref_int, deref_bl, deref_str, deref_non, deref_tup, deref_lst, ok_int, ok_bl, ok_non, peq_int, Bool.not_true, Bool.not_false, decide_eq_true_eq, true_or, or_true, false_or, or_false, false_and, and_false, not_true_eq_false, not_false_eq_true, Bool.not_eq_true', decide_eq_false_iff_not, ex_ins, dFld, dFldS, dMeth, dMeth0, dMake, dProp, dAugO, boolOW, intSW, MO.ins.injEq, bd_frame, bd_every, bd_lots, bd_now, bd_past, bd_put_now, bd_put_past, bd_no_renew, bd_no_undo, bd_length, ini1, ini2, ini3, ini4, ini5, ini_e2, ini_e3, ini_l3, ini_n1, ini_n2, ini_n3, ini_n4]; exact h)
end
end NC

end
section
set_option Elab.async false
set_option linter.all false
set_option maxRecDepth 100000
set_option maxHeartbeats 4000000
namespace NC
open PySem PySem.Spec PyProof.Rows L2 RZ
section
variable {Pr : Program} {w : World} {K : PySem.W.Frag} {mg : Str → Option Value} {base : Heap}
def sp_need_system (K : PySem.W.Frag) : DSp := fun ds M Φ Ψ => match ds with
  | [v] => (fitP v = true) ∧ if isSys v = true then Φ .non M else Ψ (.ref (He.ga K "InvalidSystem")) [] M
  | _ => False
theorem ok_need_system (T : Top K mg) : Fx Pr w K mg base 4 "need_system" ["value"] (sp_need_system K) := by
  refine fx_of T.d_need_system sc_need_system (fun _ _ _ _ _ _ us hl => match us, hl with | [_], _ => rfl) (fun f cdv A outer s H E Ψ hr tk => ⟨_, (dss_one (ds_if (dt_not (dt_tru (de_callF (ok_is_system_value T) (hr.mono (by decide)) rfl tk (da_cons (de_var (pv 0)) da_nil)))) (dss_one (ds_raiseO T.e_InvalidSystem rfl tk rfl)) dss_nil)), ?_⟩)
  intro ds M Φ hn h
  match ds, h with
  | [v], ⟨f, h⟩ =>
    simp only [startR, exists_and_left, at0, at1, at2, ix30, ix31, ix32, List.set_cons_zero, List.set_cons_succ, Option.some.injEq, MO.lst.injEq, P.int.injEq, P.tup.injEq, P.lst.injEq, exists_eq_left, exists_eq_left', exists_eq, updM_same, updM_updM, reduceCtorEq, List.length_map, List.map_cons, List.map_nil, List.length_cons, List.length_nil, Nat.reduceAdd, Nat.reduceSub, List.replicate_zero, List.replicate_succ, List.cons_append, List.nil_append, List.append_nil, List.append_assoc, Nat.sub_self, true_and, and_true, if_true, Bool.false_eq_true, if_false, dSeq, dNext, dIfS, dRet, dRetN, dAsg, dDrop, dVar, lk, dC, dCons, dNil, dTup, dLst, dLstM, dFz, dBin, dTest, asB, dChain, dTru, truW, dAnd, dOr, dNot, dAndV, dOrV, dNotV, dNeg, dIf, idxW, dNo, dSo, dCut, dCB, dCall, dCall0, int0, intW, isiW, put, gdName, gdSub, gdTup, gdCons, gdNil, dPar, dPar3, dRaise, EndsR, dLc, dLcM, iSeq, iTupD, iLst, iZipD, iEnumD, iRg1, iRg2, iStrD, wipeR, wipeR.unput, dFor, lenW, sqW, lsW, allW, anyW, sumW, tupCW, lstCW, lstCMW, absW, intCW, strCW, eqW, neW, isNonW, notNonW, nonB, addW, addMW, mulLW, inW, cutW, dRev, dAppC, dPop, dLRg1, dLRg2, dSplitC, dJoinC, dIsi2, tyN, isi, Option.isSome_some, Option.isSome_none, deref_int, deref_bl, deref_str, deref_non, deref_tup, deref_lst, ok_int, ok_bl, ok_non, peq_int, Bool.not_true, Bool.not_false, decide_eq_true_eq, true_or, or_true, false_or, or_false, false_and, and_false, not_true_eq_false, not_false_eq_true, Bool.not_eq_true', decide_eq_false_iff_not, ex_ins, dFld, dFldS, dMeth, dMeth0, dMake, dProp, dAugO, boolOW, intSW, MO.ins.injEq, bd_frame, bd_every, bd_lots, bd_now, bd_past, bd_put_now, bd_put_past, bd_no_renew, bd_no_undo, bd_length, ini1, ini2, ini3, ini4, ini5, ini_e2, ini_e3, ini_l3, ini_n1, ini_n2, ini_n3, ini_n4]
    refine ⟨f, ?_⟩
    cases q : isSys v with
    | true => rw [q] at h; simp only [startR, exists_and_left, at0, at1, at2, ix30, ix31, ix32, List.set_cons_zero, List.set_cons_succ, Option.some.injEq, MO.lst.injEq, P.int.injEq, P.tup.injEq, P.lst.injEq, exists_eq_left, exists_eq_left', exists_eq, updM_same, updM_updM, reduceCtorEq, List.length_map, List.map_cons, List.map_nil, List.length_cons, List.length_nil, Nat.reduceAdd, Nat.reduceSub, List.replicate_zero, List.replicate_succ, List.cons_append, List.nil_append, List.append_nil, List.append_assoc, Nat.sub_self, true_and, and_true, if_true, Bool.false_eq_true, if_false, dSeq, dNext, dIfS, dRet, dRetN, dAsg, dDrop, dVar, lk, dC, dCons, dNil, dTup, dLst, dLstM, dFz, dBin, dTest, asB, dChain, dTru, truW, dAnd, dOr, dNot, dAndV, dOrV, dNotV, dNeg, dIf, idxW, dNo, dSo, dCut, dCB, dCall, dCall0, int0, intW, isiW, put, gdName, gdSub, gdTup, gdCons, gdNil, dPar, dPar3, dRaise, EndsR, dLc, dLcM, iSeq, iTupD, iLst, iZipD, iEnumD, iRg1, iRg2, iStrD, wipeR, wipeR.unput, dFor, lenW, sqW, lsW, allW, anyW, sumW, tupCW, lstCW, lstCMW, absW, intCW, strCW, eqW, neW, isNonW, notNonW, nonB, addW, addMW, mulLW, inW, cutW, dRev, dAppC, dPop, dLRg1, dLRg2, dSplitC, dJoinC, dIsi2, tyN, isi, Option.isSome_some, Option.isSome_none, deref_int, deref_bl, deref_str, deref_non, deref_tup, deref_lst, ok_int, ok_bl, ok_non, peq_int, Bool.not_true, Bool.not_false, decide_eq_true_eq, true_or, or_true, false_or, or_false, false_and, and_false, not_true_eq_false, not_false_eq_true, Bool.not_eq_true', decide_eq_false_iff_not, ex_ins, dFld, dFldS, dMeth, dMeth0, dMake, dProp, dAugO, boolOW, intSW, MO.ins.injEq, bd_frame, bd_every, bd_lots, bd_now, bd_past, bd_put_now, bd_put_past, bd_no_renew, bd_no_undo, bd_length, ini1, ini2, ini3, ini4, ini5, ini_e2, ini_e3, ini_l3, ini_n1, ini_n2, ini_n3, ini_n4]; exact Lt.of h
    | false => rw [q] at h; simp only [startR, exists_and_left, at0, at1, at2, ix30, ix31, ix32, List.set_cons_zero, List.set_cons_succ, Option.some.injEq, MO.lst.injEq, P.int.injEq, P.tup.injEq, P.lst.injEq, exists_eq_left, exists_eq_left', exists_eq, updM_same, updM_updM, reduceCtorEq, List.length_map, List.map_cons, List.map_nil, List.length_cons, List.length_nil, Nat.reduceAdd, Nat.reduceSub, List.replicate_zero, List.replicate_succ, List.cons_append, List.nil_append, List.append_nil, List.append_assoc, Nat.sub_self, true_and, and_true, if_true, Bool.false_eq_true, if_false, dSeq, dNext, dIfS, dRet, dRetN, dAsg, dDrop, dVar, lk, dC, dCons, dNil, dTup, dLst, dLstM, dFz, dBin, dTest, asB, dChain, dTru, truW, dAnd, dOr, dNot, dAndV, dOrV, dNotV, dNeg, dIf, idxW, dNo, dSo, dCut, dCB, dCall, dCall0, int0, intW, isiW, put, gdName, gdSub, gdTup, gdCons, gdNil, dPar, dPar3, dRaise, EndsR, dLc, dLcM, iSeq, iTupD, iLst, iZipD, iEnumD, iRg1, iRg2, iStrD, wipeR, wipeR.unput, dFor, lenW, sqW, lsW, allW, anyW, sumW, tupCW, lstCW, lstCMW, absW, intCW, strCW, eqW, neW, isNonW, notNonW, nonB, addW, addMW, mulLW, inW, cutW, dRev, dAppC, dPop, dLRg1, dLRg2, dSplitC, dJoinC, dIsi2, tyN, isi, Option.isSome_some, Option.isSome_none, deref_int, deref_bl, deref_str, deref_non, deref_tup, deref_lst, ok_int, ok_bl, ok_non, peq_int, Bool.not_true, Bool.not_false, decide_eq_true_eq, true_or, or_true, false_or, or_false, false_and, and_false, not_true_eq_false, not_false_eq_true, Bool.not_eq_true', decide_eq_false_iff_not, ex_ins, dFld, dFldS, dMeth, dMeth0, dMake, dProp, dAugO, boolOW, intSW, MO.ins.injEq, bd_frame, bd_every, bd_lots, bd_now, bd_past, bd_put_now, bd_put_past, bd_no_renew, bd_no_undo, bd_length, ini1, ini2, ini3, ini4, ini5, ini_e2, ini_e3, ini_l3, ini_n1, ini_n2, ini_n3, ini_n4]; exact h
end
end NC

end
section
set_option Elab.async false
set_option linter.all false
set_option maxRecDepth 100000
set_option maxHeartbeats 4000000
namespace NC
open PySem PySem.Spec PyProof.Rows L2 RZ
section
variable {Pr : Program} {w : World} {K : PySem.W.Frag} {mg : Str → Option Value} {base : Heap}
def sp_goes_on : DSp := fun ds M Φ Ψ => ∃ (every : List (List Int)) (lots : List (List (List Int))) (z c : Str), ds = [.lst (lots.map lotP), .str z, .str c] ∧ LotsOk every lots ∧ (∀ row ∈ every, ∀ x ∈ row, 1 ≤ x) ∧ z.length ≤ 15 ∧ sOk z ∧ sOk c ∧ Φ (.bl (goesOn every z c)) M
theorem ok_goes_on (T : Top K mg) : Fx Pr w K mg base 1 "goes_on" ["lots", "colouring", "colour"] sp_goes_on := by
  refine fx_of T.d_goes_on sc_goes_on (fun _ _ _ _ _ _ us hl => match us, hl with | [_, _, _], _ => rfl) (fun f cdv A outer s H E Ψ hr tk => ⟨_, (dss_cons (ds_for (passes_of rfl) rfl (di_seq (de_idx (de_var (pv 0)) (de_bin opd_add (de_callB cd_len rfl T.m_len (by decide +kernel) (da_cons (de_var (pv 1)) da_nil)) de_int))) (dg_name (pg_name (i := 3) sc_goes_on.nd rfl (by first | exact Or.inl rfl | exact Or.inr rfl))) (dss_one (ds_if (dt_tru (de_callB (cd_all rfl) rfl T.m_all (by decide +kernel) (da_cons (de_lc (own := [("number", 4)]) rfl sc_goes_on.nd (di_seq (de_var (pv 3))) (blkOk_by (sc := defScope s_goes_on) (own := [("number", 4)]) (N := ["lots", "colouring", "colour", "lot", "number"]) (by decide +kernel)) (fun _ _ _ _ _ => (dgc_name (pg_name (i := 4) sc_goes_on.nd rfl (by first | exact Or.inl rfl | exact Or.inr rfl)) (by decide))) (fun _ _ _ _ _ => dts_nil) (fun _ _ _ _ _ => (de_cmp (opd_eq hr.units) (de_idx (de_var (pv 1)) (de_bin opd_sub (de_var (pv 4)) de_int)) (de_var (pv 2)) (nomark _)))) da_nil))) (dss_one (ds_ret de_bl)) dss_nil))) (dss_one (ds_ret de_bl))), ?_⟩)
  intro ds M Φ hn h
  obtain ⟨every, lots, z, c, rfl, lo, ep, hz, oz, oc, h⟩ := h
  have hl : z.length ≤ sizeLine := line_of (by omega)
  obtain ⟨kss, hk⟩ : ∃ kss, lots[z.length + 1]? = some kss := ⟨_, List.getElem?_eq_getElem (by rw [lo.1]; omega)⟩
  have la := lo.2 _ _ hk
  rw [show (((z.length + 1 : Nat) : Int)) = (z.length : Int) + 1 by omega] at la
  have hi : atI (lots.map lotP) ((z.length : Int) + 1) = some (lotP kss) := by
    have e : (lots.map lotP)[z.length + 1]? = some (lotP kss) := by rw [List.getElem?_map, hk]; rfl
    have := atI_nat e
    rw [show (((z.length + 1 : Nat) : Int)) = (z.length : Int) + 1 by omega] at this
    exact this
  simp (decide := true) only [startR, exists_and_left, at0, at1, at2, ix30, ix31, ix32, List.set_cons_zero, List.set_cons_succ, Option.some.injEq, MO.lst.injEq, P.int.injEq, P.tup.injEq, P.lst.injEq, exists_eq_left, exists_eq_left', exists_eq, updM_same, updM_updM, reduceCtorEq, List.length_map, List.map_cons, List.map_nil, List.length_cons, List.length_nil, Nat.reduceAdd, Nat.reduceSub, List.replicate_zero, List.replicate_succ, List.cons_append, List.nil_append, List.append_nil, List.append_assoc, Nat.sub_self, true_and, and_true, if_true, Bool.false_eq_true, if_false, dSeq, dNext, dIfS, dRet, dRetN, dAsg, dDrop, dVar, lk, dC, dCons, dNil, dTup, dLst, dLstM, dFz, dBin, dTest, asB, dChain, dTru, truW, dAnd, dOr, dNot, dAndV, dOrV, dNotV, dNeg, dIf, idxW, dNo, dSo, dCut, dCB, dCall, dCall0, int0, intW, isiW, put, gdName, gdSub, gdTup, gdCons, gdNil, dPar, dPar3, dRaise, EndsR, dLc, dLcM, iSeq, iTupD, iLst, iZipD, iEnumD, iRg1, iRg2, iStrD, wipeR, wipeR.unput, dFor, lenW, sqW, lsW, allW, anyW, sumW, tupCW, lstCW, lstCMW, absW, intCW, strCW, eqW, neW, isNonW, notNonW, nonB, addW, addMW, mulLW, inW, cutW, dRev, dAppC, dPop, dLRg1, dLRg2, dSplitC, dJoinC, dIsi2, tyN, isi, Option.isSome_some, Option.isSome_none, deref_int, deref_bl, deref_str, deref_non, deref_tup, deref_lst, ok_int, ok_bl, ok_non, peq_int, Bool.not_true, Bool.not_false, decide_eq_true_eq, true_or, or_true, false_or, or_false, false_and, and_false, not_true_eq_false, not_false_eq_true, Bool.not_eq_true', decide_eq_false_iff_not, ex_ins, dFld, dFldS, dMeth, dMeth0, dMake, dProp, dAugO, boolOW, intSW, MO.ins.injEq, bd_frame, bd_every, bd_lots, bd_now, bd_past, bd_put_now, bd_put_past, bd_no_renew, bd_no_undo, bd_length, ini1, ini2, ini3, ini4, ini5, ini_e2, ini_e3, ini_l3, ini_n1, ini_n2, ini_n3, ini_n4, hl, hi, lotP]
  refine for_gen (fun xs ρ M' => ∃ (done rest : List (List Int)) (t3 t4 : Option P), M' = M ∧ kss = done ++ rest ∧ xs = rest.map tupI ∧ (∀ lot ∈ done, (lot.all fun x => decide (sg z x = c)) = false) ∧ ρ = [some (.lst (lots.map lotP)), some (.str z), some (.str c), t3, t4]) (fun x xs ρ M' nx hI hnx => ?_) (fun ρ M' hI => ?_) _ _ _ ⟨[], kss, _, _, rfl, rfl, rfl, fun r hr => absurd hr List.not_mem_nil, rfl⟩
  · obtain ⟨done, rest, t3, t4, rfl, eg, ey, hd, rfl⟩ := hI
    cases rest with
    | nil => cases ey
    | cons lot rest =>
      rw [List.map_cons] at ey
      obtain ⟨rfl, rfl⟩ := List.cons.inj ey
      have hlot : lot ∈ kss := by rw [eg]; exact List.mem_append_right _ List.mem_cons_self
      obtain ⟨hlen, row, hr, ht, hm⟩ := la.1 lot hlot
      have hx : ∀ x ∈ lot, 1 ≤ x ∧ x ≤ (z.length : Int) := fun x hx => by
        obtain ⟨a1, a2⟩ := (hm x).mp hx
        have := ht.2 x a1
        have := ep row hr x a1
        omega
      simp (decide := true) only [startR, exists_and_left, at0, at1, at2, ix30, ix31, ix32, List.set_cons_zero, List.set_cons_succ, Option.some.injEq, MO.lst.injEq, P.int.injEq, P.tup.injEq, P.lst.injEq, exists_eq_left, exists_eq_left', exists_eq, updM_same, updM_updM, reduceCtorEq, List.length_map, List.map_cons, List.map_nil, List.length_cons, List.length_nil, Nat.reduceAdd, Nat.reduceSub, List.replicate_zero, List.replicate_succ, List.cons_append, List.nil_append, List.append_nil, List.append_assoc, Nat.sub_self, true_and, and_true, if_true, Bool.false_eq_true, if_false, dSeq, dNext, dIfS, dRet, dRetN, dAsg, dDrop, dVar, lk, dC, dCons, dNil, dTup, dLst, dLstM, dFz, dBin, dTest, asB, dChain, dTru, truW, dAnd, dOr, dNot, dAndV, dOrV, dNotV, dNeg, dIf, idxW, dNo, dSo, dCut, dCB, dCall, dCall0, int0, intW, isiW, put, gdName, gdSub, gdTup, gdCons, gdNil, dPar, dPar3, dRaise, EndsR, dLc, dLcM, iSeq, iTupD, iLst, iZipD, iEnumD, iRg1, iRg2, iStrD, wipeR, wipeR.unput, dFor, lenW, sqW, lsW, allW, anyW, sumW, tupCW, lstCW, lstCMW, absW, intCW, strCW, eqW, neW, isNonW, notNonW, nonB, addW, addMW, mulLW, inW, cutW, dRev, dAppC, dPop, dLRg1, dLRg2, dSplitC, dJoinC, dIsi2, tyN, isi, Option.isSome_some, Option.isSome_none, deref_int, deref_bl, deref_str, deref_non, deref_tup, deref_lst, ok_int, ok_bl, ok_non, peq_int, Bool.not_true, Bool.not_false, decide_eq_true_eq, true_or, or_true, false_or, or_false, false_and, and_false, not_true_eq_false, not_false_eq_true, Bool.not_eq_true', decide_eq_false_iff_not, ex_ins, dFld, dFldS, dMeth, dMeth0, dMake, dProp, dAugO, boolOW, intSW, MO.ins.injEq, bd_frame, bd_every, bd_lots, bd_now, bd_past, bd_put_now, bd_put_past, bd_no_renew, bd_no_undo, bd_length, ini1, ini2, ini3, ini4, ini5, ini_e2, ini_e3, ini_l3, ini_n1, ini_n2, ini_n3, ini_n4, tupI]
      refine ⟨line_of (by omega), lc_map (fun p => match p with | .int x => .bl (decide (sg z x = c)) | q => q) (fun p hp k hk => ?_) ?_⟩
      · obtain ⟨x, hx', rfl⟩ := List.mem_map.mp hp
        obtain ⟨cc, e1, e2⟩ := sg_at (hx x hx').1 (hx x hx').2
        simp (decide := true) only [startR, exists_and_left, at0, at1, at2, ix30, ix31, ix32, List.set_cons_zero, List.set_cons_succ, Option.some.injEq, MO.lst.injEq, P.int.injEq, P.tup.injEq, P.lst.injEq, exists_eq_left, exists_eq_left', exists_eq, updM_same, updM_updM, reduceCtorEq, List.length_map, List.map_cons, List.map_nil, List.length_cons, List.length_nil, Nat.reduceAdd, Nat.reduceSub, List.replicate_zero, List.replicate_succ, List.cons_append, List.nil_append, List.append_nil, List.append_assoc, Nat.sub_self, true_and, and_true, if_true, Bool.false_eq_true, if_false, dSeq, dNext, dIfS, dRet, dRetN, dAsg, dDrop, dVar, lk, dC, dCons, dNil, dTup, dLst, dLstM, dFz, dBin, dTest, asB, dChain, dTru, truW, dAnd, dOr, dNot, dAndV, dOrV, dNotV, dNeg, dIf, idxW, dNo, dSo, dCut, dCB, dCall, dCall0, int0, intW, isiW, put, gdName, gdSub, gdTup, gdCons, gdNil, dPar, dPar3, dRaise, EndsR, dLc, dLcM, iSeq, iTupD, iLst, iZipD, iEnumD, iRg1, iRg2, iStrD, wipeR, wipeR.unput, dFor, lenW, sqW, lsW, allW, anyW, sumW, tupCW, lstCW, lstCMW, absW, intCW, strCW, eqW, neW, isNonW, notNonW, nonB, addW, addMW, mulLW, inW, cutW, dRev, dAppC, dPop, dLRg1, dLRg2, dSplitC, dJoinC, dIsi2, tyN, isi, Option.isSome_some, Option.isSome_none, deref_int, deref_bl, deref_str, deref_non, deref_tup, deref_lst, ok_int, ok_bl, ok_non, peq_int, Bool.not_true, Bool.not_false, decide_eq_true_eq, true_or, or_true, false_or, or_false, false_and, and_false, not_true_eq_false, not_false_eq_true, Bool.not_eq_true', decide_eq_false_iff_not, ex_ins, dFld, dFldS, dMeth, dMeth0, dMake, dProp, dAugO, boolOW, intSW, MO.ins.injEq, bd_frame, bd_every, bd_lots, bd_now, bd_past, bd_put_now, bd_put_past, bd_no_renew, bd_no_undo, bd_length, ini1, ini2, ini3, ini4, ini5, ini_e2, ini_e3, ini_l3, ini_n1, ini_n2, ini_n3, ini_n4]
        refine ⟨hl, cc, e1, ?_⟩
        have hcc : cc ∈ z.cps.toList := (fun ⟨j, _, q, _⟩ => List.mem_of_getElem? q) (atI_get e1)
        refine ⟨⟨ok_sP (sOk_one (sOk_iff.mp oz cc hcc)), ok_sP oc⟩, ?_⟩
        rw [peq_str, e2]
        exact hk
      · refine ⟨lot.map fun x => decide (sg z x = c), by rw [List.nil_append, List.map_map, List.map_map]; rfl, ?_⟩
        have e5 : (lot.map fun x => decide (sg z x = c)).all id = lot.all fun x => decide (sg z x = c) := by rw [List.all_map]; rfl
        rw [e5]
        cases q : lot.all fun x => decide (sg z x = c) with
        | true =>
          rw [if_pos rfl]
          have e : goesOn every z c = false := by
            unfold goesOn
            rw [← goes_on_lots la, Bool.not_eq_false', List.any_eq_true]
            exact ⟨lot, hlot, q⟩
          rw [e] at h
          exact Lt.of h
        | false =>
          rw [if_neg (by decide)]
          refine hnx _ _ ⟨done ++ [lot], rest, _, _, rfl, by rw [eg, List.append_assoc]; rfl, rfl, fun l hl => ?_, rfl⟩
          rcases List.mem_append.mp hl with hl | hl
          · exact hd l hl
          · rw [List.mem_singleton.mp hl]; exact q
  · obtain ⟨done, rest, t3, t4, rfl, eg, ey, hd, rfl⟩ := hI
    cases rest with
    | cons row rest => cases ey
    | nil =>
      simp (decide := true) only [startR, exists_and_left, at0, at1, at2, ix30, ix31, ix32, List.set_cons_zero, List.set_cons_succ, Option.some.injEq, MO.lst.injEq, P.int.injEq, P.tup.injEq, P.lst.injEq, exists_eq_left, exists_eq_left', exists_eq, updM_same, updM_updM, reduceCtorEq, List.length_map, List.map_cons, List.map_nil, List.length_cons, List.length_nil, Nat.reduceAdd, Nat.reduceSub, List.replicate_zero, List.replicate_succ, List.cons_append, List.nil_append, List.append_nil, List.append_assoc, Nat.sub_self, true_and, and_true, if_true, Bool.false_eq_true, if_false, dSeq, dNext, dIfS, dRet, dRetN, dAsg, dDrop, dVar, lk, dC, dCons, dNil, dTup, dLst, dLstM, dFz, dBin, dTest, asB, dChain, dTru, truW, dAnd, dOr, dNot, dAndV, dOrV, dNotV, dNeg, dIf, idxW, dNo, dSo, dCut, dCB, dCall, dCall0, int0, intW, isiW, put, gdName, gdSub, gdTup, gdCons, gdNil, dPar, dPar3, dRaise, EndsR, dLc, dLcM, iSeq, iTupD, iLst, iZipD, iEnumD, iRg1, iRg2, iStrD, wipeR, wipeR.unput, dFor, lenW, sqW, lsW, allW, anyW, sumW, tupCW, lstCW, lstCMW, absW, intCW, strCW, eqW, neW, isNonW, notNonW, nonB, addW, addMW, mulLW, inW, cutW, dRev, dAppC, dPop, dLRg1, dLRg2, dSplitC, dJoinC, dIsi2, tyN, isi, Option.isSome_some, Option.isSome_none, deref_int, deref_bl, deref_str, deref_non, deref_tup, deref_lst, ok_int, ok_bl, ok_non, peq_int, Bool.not_true, Bool.not_false, decide_eq_true_eq, true_or, or_true, false_or, or_false, false_and, and_false, not_true_eq_false, not_false_eq_true, Bool.not_eq_true', decide_eq_false_iff_not, ex_ins, dFld, dFldS, dMeth, dMeth0, dMake, dProp, dAugO, boolOW, intSW, MO.ins.injEq, bd_frame, bd_every, bd_lots, bd_now, bd_past, bd_put_now, bd_put_past, bd_no_renew, bd_no_undo, bd_length, ini1, ini2, ini3, ini4, ini5, ini_e2, ini_e3, ini_l3, ini_n1, ini_n2, ini_n3, ini_n4]
      have e : goesOn every z c = true := by
        unfold goesOn
        rw [← goes_on_lots la, eg, List.append_nil, Bool.not_eq_true', List.any_eq_false]
        exact fun lot hl => by rw [hd lot hl]; decide
      rw [e] at h
      exact Lt.of h
end
end NC

end
section
set_option Elab.async false
set_option linter.all false
set_option maxRecDepth 100000
set_option maxHeartbeats 4000000
namespace NC
open PySem PySem.Spec PyProof.Rows L2 RZ
section
variable {Pr : Program} {w : World} {K : PySem.W.Frag} {mg : Str → Option Value} {base : Heap}
def sp_in_one_colour : DSp := fun ds M Φ Ψ => ∃ (c : Nat) (every : List (List Int)) (z : Str), ds = [.lst (every.map tupI), .str z] ∧ 1 ≤ c ∧ c ≤ 1000 ∧ RowsOk c every ∧ z.length ≤ 1000000 ∧ Φ (optP (oneCol every z)) M
theorem ok_in_one_colour (T : Top K mg) : Fx Pr w K mg base 1 "in_one_colour" ["every", "colouring"] sp_in_one_colour := by
  refine fx_of T.d_in_one_colour sc_in_one_colour (fun _ _ _ _ _ _ us hl => match us, hl with | [_, _], _ => rfl) (fun f cdv A outer s H E Ψ hr tk => ⟨_, (dss_cons (ds_for (passes_of rfl) rfl (di_seq (de_var (pv 0))) (dg_name (pg_name (i := 2) sc_in_one_colour.nd rfl (by first | exact Or.inl rfl | exact Or.inr rfl))) (dss_one (ds_if (DW.dt (dw_and (dt_cmp opd_le (de_callB (cd_maxT rfl) rfl T.m_max (by decide +kernel) (da_cons (de_var (pv 2)) da_nil)) (de_callB cd_len rfl T.m_len (by decide +kernel) (da_cons (de_var (pv 1)) da_nil)) (nomark _)) (dw_and1 (dt_cmp (opd_eq hr.units) (de_lenSet rfl rfl T.m_len rfl T.m_set (de_lc (own := [("number", 3)]) rfl sc_in_one_colour.nd (di_seq (de_var (pv 2))) (blkOk_by (sc := defScope s_in_one_colour) (own := [("number", 3)]) (N := ["every", "colouring", "row", "number"]) (by decide +kernel)) (fun _ _ _ _ _ => (dgc_name (pg_name (i := 3) sc_in_one_colour.nd rfl (by first | exact Or.inl rfl | exact Or.inr rfl)) (by decide))) (fun _ _ _ _ _ => dts_nil) (fun _ _ _ _ _ => (de_idx (de_var (pv 1)) (de_bin opd_sub (de_var (pv 3)) de_int))))) de_int (nomark _))))) (dss_one (ds_ret (de_var (pv 2)))) dss_nil))) (dss_one (ds_ret de_non))), ?_⟩)
  intro ds M Φ hn h
  obtain ⟨c, every, z, rfl, c1, c2, ro, hz, h⟩ := h
  have hl : z.length ≤ sizeLine := line_of (by omega)
  simp (decide := true) only [startR, exists_and_left, at0, at1, at2, ix30, ix31, ix32, List.set_cons_zero, List.set_cons_succ, Option.some.injEq, MO.lst.injEq, P.int.injEq, P.tup.injEq, P.lst.injEq, exists_eq_left, exists_eq_left', exists_eq, updM_same, updM_updM, reduceCtorEq, List.length_map, List.map_cons, List.map_nil, List.length_cons, List.length_nil, Nat.reduceAdd, Nat.reduceSub, List.replicate_zero, List.replicate_succ, List.cons_append, List.nil_append, List.append_nil, List.append_assoc, Nat.sub_self, true_and, and_true, if_true, Bool.false_eq_true, if_false, dSeq, dNext, dIfS, dRet, dRetN, dAsg, dDrop, dVar, lk, dC, dCons, dNil, dTup, dLst, dLstM, dFz, dBin, dTest, asB, dChain, dTru, truW, dAnd, dOr, dNot, dAndV, dOrV, dNotV, dNeg, dIf, idxW, dNo, dSo, dCut, dCB, dCall, dCall0, int0, intW, isiW, put, gdName, gdSub, gdTup, gdCons, gdNil, dPar, dPar3, dRaise, EndsR, dLc, dLcM, iSeq, iTupD, iLst, iZipD, iEnumD, iRg1, iRg2, iStrD, wipeR, wipeR.unput, dFor, lenW, sqW, lsW, allW, anyW, sumW, tupCW, lstCW, lstCMW, absW, intCW, strCW, eqW, neW, isNonW, notNonW, nonB, addW, addMW, mulLW, inW, cutW, dRev, dAppC, dPop, dLRg1, dLRg2, dSplitC, dJoinC, dIsi2, tyN, isi, Option.isSome_some, Option.isSome_none, deref_int, deref_bl, deref_str, deref_non, deref_tup, deref_lst, ok_int, ok_bl, ok_non, peq_int, Bool.not_true, Bool.not_false, decide_eq_true_eq, true_or, or_true, false_or, or_false, false_and, and_false, not_true_eq_false, not_false_eq_true, Bool.not_eq_true', decide_eq_false_iff_not, ex_ins, dFld, dFldS, dMeth, dMeth0, dMake, dProp, dAugO, boolOW, intSW, MO.ins.injEq, bd_frame, bd_every, bd_lots, bd_now, bd_past, bd_put_now, bd_put_past, bd_no_renew, bd_no_undo, bd_length, ini1, ini2, ini3, ini4, ini5, ini_e2, ini_e3, ini_l3, ini_n1, ini_n2, ini_n3, ini_n4]
  refine for_gen (fun xs ρ M' => ∃ (done rest : List (List Int)) (t2 : Option P), M' = M ∧ every = done ++ rest ∧ xs = rest.map tupI ∧ done.find? (mono z) = none ∧ ρ = [some (.lst (every.map tupI)), some (.str z), t2, none]) (fun x xs ρ M' nx hI hnx => ?_) (fun ρ M' hI => ?_) _ _ _ ⟨[], _, _, rfl, rfl, rfl, rfl, rfl⟩
  · obtain ⟨done, rest, t2, rfl, eg, ey, hf, rfl⟩ := hI
    cases rest with
    | nil => cases ey
    | cons row rest =>
      rw [List.map_cons] at ey
      obtain ⟨rfl, rfl⟩ := List.cons.inj ey
      have hrow : row ∈ every := by rw [eg]; exact List.mem_append_right _ List.mem_cons_self
      obtain ⟨hlen, hpos⟩ := ro row hrow
      have no : mono z row = false → nx [some (.lst (every.map tupI)), some (.str z), some (tupI row), none] M' := fun q => hnx _ _ ⟨done ++ [row], rest, _, rfl, by rw [eg, List.append_assoc]; rfl, rfl, by rw [List.find?_append, hf, List.find?_cons_of_neg (by rw [q]; decide)]; rfl, rfl⟩
      have yes : mono z row = true → Lt Φ (tupI row) M' := fun q => by
        have e : oneCol every z = some row := by
          unfold oneCol
          rw [eg, List.find?_append, hf, List.find?_cons_of_pos q]; rfl
        rw [e] at h
        exact Lt.of h
      simp (decide := true) only [startR, exists_and_left, at0, at1, at2, ix30, ix31, ix32, List.set_cons_zero, List.set_cons_succ, Option.some.injEq, MO.lst.injEq, P.int.injEq, P.tup.injEq, P.lst.injEq, exists_eq_left, exists_eq_left', exists_eq, updM_same, updM_updM, reduceCtorEq, List.length_map, List.map_cons, List.map_nil, List.length_cons, List.length_nil, Nat.reduceAdd, Nat.reduceSub, List.replicate_zero, List.replicate_succ, List.cons_append, List.nil_append, List.append_nil, List.append_assoc, Nat.sub_self, true_and, and_true, if_true, Bool.false_eq_true, if_false, dSeq, dNext, dIfS, dRet, dRetN, dAsg, dDrop, dVar, lk, dC, dCons, dNil, dTup, dLst, dLstM, dFz, dBin, dTest, asB, dChain, dTru, truW, dAnd, dOr, dNot, dAndV, dOrV, dNotV, dNeg, dIf, idxW, dNo, dSo, dCut, dCB, dCall, dCall0, int0, intW, isiW, put, gdName, gdSub, gdTup, gdCons, gdNil, dPar, dPar3, dRaise, EndsR, dLc, dLcM, iSeq, iTupD, iLst, iZipD, iEnumD, iRg1, iRg2, iStrD, wipeR, wipeR.unput, dFor, lenW, sqW, lsW, allW, anyW, sumW, tupCW, lstCW, lstCMW, absW, intCW, strCW, eqW, neW, isNonW, notNonW, nonB, addW, addMW, mulLW, inW, cutW, dRev, dAppC, dPop, dLRg1, dLRg2, dSplitC, dJoinC, dIsi2, tyN, isi, Option.isSome_some, Option.isSome_none, deref_int, deref_bl, deref_str, deref_non, deref_tup, deref_lst, ok_int, ok_bl, ok_non, peq_int, Bool.not_true, Bool.not_false, decide_eq_true_eq, true_or, or_true, false_or, or_false, false_and, and_false, not_true_eq_false, not_false_eq_true, Bool.not_eq_true', decide_eq_false_iff_not, ex_ins, dFld, dFldS, dMeth, dMeth0, dMake, dProp, dAugO, boolOW, intSW, MO.ins.injEq, bd_frame, bd_every, bd_lots, bd_now, bd_past, bd_put_now, bd_put_past, bd_no_renew, bd_no_undo, bd_length, ini1, ini2, ini3, ini4, ini5, ini_e2, ini_e3, ini_l3, ini_n1, ini_n2, ini_n3, ini_n4, maxTW, dLenSet, hl, tupI]
      refine ⟨row, rfl, by omega, fun m h1 h2 => ?_⟩
      have em : (row.all fun x => decide (x ≤ (z.length : Int))) = decide (m ≤ (z.length : Int)) := max_le h1 h2
      by_cases q1 : m ≤ (z.length : Int)
      · rw [if_pos q1]
        refine ⟨line_of (by omega), lc_map (fun p => match p with | .int x => .str (sg z x) | q => q) (fun p hp k hk => ?_) ?_⟩
        · obtain ⟨x, hx, rfl⟩ := List.mem_map.mp hp
          obtain ⟨cc, e1, e2⟩ := sg_at (hpos x hx) (show x ≤ (z.length : Int) by have := h2 x hx; omega)
          simp (decide := true) only [startR, exists_and_left, at0, at1, at2, ix30, ix31, ix32, List.set_cons_zero, List.set_cons_succ, Option.some.injEq, MO.lst.injEq, P.int.injEq, P.tup.injEq, P.lst.injEq, exists_eq_left, exists_eq_left', exists_eq, updM_same, updM_updM, reduceCtorEq, List.length_map, List.map_cons, List.map_nil, List.length_cons, List.length_nil, Nat.reduceAdd, Nat.reduceSub, List.replicate_zero, List.replicate_succ, List.cons_append, List.nil_append, List.append_nil, List.append_assoc, Nat.sub_self, true_and, and_true, if_true, Bool.false_eq_true, if_false, dSeq, dNext, dIfS, dRet, dRetN, dAsg, dDrop, dVar, lk, dC, dCons, dNil, dTup, dLst, dLstM, dFz, dBin, dTest, asB, dChain, dTru, truW, dAnd, dOr, dNot, dAndV, dOrV, dNotV, dNeg, dIf, idxW, dNo, dSo, dCut, dCB, dCall, dCall0, int0, intW, isiW, put, gdName, gdSub, gdTup, gdCons, gdNil, dPar, dPar3, dRaise, EndsR, dLc, dLcM, iSeq, iTupD, iLst, iZipD, iEnumD, iRg1, iRg2, iStrD, wipeR, wipeR.unput, dFor, lenW, sqW, lsW, allW, anyW, sumW, tupCW, lstCW, lstCMW, absW, intCW, strCW, eqW, neW, isNonW, notNonW, nonB, addW, addMW, mulLW, inW, cutW, dRev, dAppC, dPop, dLRg1, dLRg2, dSplitC, dJoinC, dIsi2, tyN, isi, Option.isSome_some, Option.isSome_none, deref_int, deref_bl, deref_str, deref_non, deref_tup, deref_lst, ok_int, ok_bl, ok_non, peq_int, Bool.not_true, Bool.not_false, decide_eq_true_eq, true_or, or_true, false_or, or_false, false_and, and_false, not_true_eq_false, not_false_eq_true, Bool.not_eq_true', decide_eq_false_iff_not, ex_ins, dFld, dFldS, dMeth, dMeth0, dMake, dProp, dAugO, boolOW, intSW, MO.ins.injEq, bd_frame, bd_every, bd_lots, bd_now, bd_past, bd_put_now, bd_put_past, bd_no_renew, bd_no_undo, bd_length, ini1, ini2, ini3, ini4, ini5, ini_e2, ini_e3, ini_l3, ini_n1, ini_n2, ini_n3, ini_n4]
          refine ⟨hl, cc, e1, ?_⟩
          rw [e2]; exact hk
        · have e3 : ((row.map P.int).map fun p => match p with | .int x => P.str (sg z x) | q => q) = (row.map (sg z)).map P.str := by rw [List.map_map, List.map_map]; rfl
          rw [List.nil_append, e3]
          refine lenSet_strs (by rw [List.length_map]; omega) ?_
          have e4 : mono z row = decide ((dedup [] (row.map (sg z))).length = 1) := by
            unfold mono
            rw [em, decide_eq_true q1, Bool.true_and]
          simp (decide := true) only [startR, exists_and_left, at0, at1, at2, ix30, ix31, ix32, List.set_cons_zero, List.set_cons_succ, Option.some.injEq, MO.lst.injEq, P.int.injEq, P.tup.injEq, P.lst.injEq, exists_eq_left, exists_eq_left', exists_eq, updM_same, updM_updM, reduceCtorEq, List.length_map, List.map_cons, List.map_nil, List.length_cons, List.length_nil, Nat.reduceAdd, Nat.reduceSub, List.replicate_zero, List.replicate_succ, List.cons_append, List.nil_append, List.append_nil, List.append_assoc, Nat.sub_self, true_and, and_true, if_true, Bool.false_eq_true, if_false, dSeq, dNext, dIfS, dRet, dRetN, dAsg, dDrop, dVar, lk, dC, dCons, dNil, dTup, dLst, dLstM, dFz, dBin, dTest, asB, dChain, dTru, truW, dAnd, dOr, dNot, dAndV, dOrV, dNotV, dNeg, dIf, idxW, dNo, dSo, dCut, dCB, dCall, dCall0, int0, intW, isiW, put, gdName, gdSub, gdTup, gdCons, gdNil, dPar, dPar3, dRaise, EndsR, dLc, dLcM, iSeq, iTupD, iLst, iZipD, iEnumD, iRg1, iRg2, iStrD, wipeR, wipeR.unput, dFor, lenW, sqW, lsW, allW, anyW, sumW, tupCW, lstCW, lstCMW, absW, intCW, strCW, eqW, neW, isNonW, notNonW, nonB, addW, addMW, mulLW, inW, cutW, dRev, dAppC, dPop, dLRg1, dLRg2, dSplitC, dJoinC, dIsi2, tyN, isi, Option.isSome_some, Option.isSome_none, deref_int, deref_bl, deref_str, deref_non, deref_tup, deref_lst, ok_int, ok_bl, ok_non, peq_int, Bool.not_true, Bool.not_false, decide_eq_true_eq, true_or, or_true, false_or, or_false, false_and, and_false, not_true_eq_false, not_false_eq_true, Bool.not_eq_true', decide_eq_false_iff_not, ex_ins, dFld, dFldS, dMeth, dMeth0, dMake, dProp, dAugO, boolOW, intSW, MO.ins.injEq, bd_frame, bd_every, bd_lots, bd_now, bd_past, bd_put_now, bd_put_past, bd_no_renew, bd_no_undo, bd_length, ini1, ini2, ini3, ini4, ini5, ini_e2, ini_e3, ini_l3, ini_n1, ini_n2, ini_n3, ini_n4]
          by_cases q2 : (dedup [] (row.map (sg z))).length = 1
          · rw [if_pos (by rw [q2]; rfl)]
            exact yes (e4.trans (decide_eq_true q2))
          · rw [if_neg (by omega)]
            exact no (e4.trans (decide_eq_false q2))
      · rw [if_neg q1]
        exact no (by unfold mono; rw [em, decide_eq_false q1, Bool.false_and])
  · obtain ⟨done, rest, t2, rfl, eg, ey, hf, rfl⟩ := hI
    cases rest with
    | cons row rest => cases ey
    | nil =>
      simp (decide := true) only [startR, exists_and_left, at0, at1, at2, ix30, ix31, ix32, List.set_cons_zero, List.set_cons_succ, Option.some.injEq, MO.lst.injEq, P.int.injEq, P.tup.injEq, P.lst.injEq, exists_eq_left, exists_eq_left', exists_eq, updM_same, updM_updM, reduceCtorEq, List.length_map, List.map_cons, List.map_nil, List.length_cons, List.length_nil, Nat.reduceAdd, Nat.reduceSub, List.replicate_zero, List.replicate_succ, List.cons_append, List.nil_append, List.append_nil, List.append_assoc, Nat.sub_self, true_and, and_true, if_true, Bool.false_eq_true, if_false, dSeq, dNext, dIfS, dRet, dRetN, dAsg, dDrop, dVar, lk, dC, dCons, dNil, dTup, dLst, dLstM, dFz, dBin, dTest, asB, dChain, dTru, truW, dAnd, dOr, dNot, dAndV, dOrV, dNotV, dNeg, dIf, idxW, dNo, dSo, dCut, dCB, dCall, dCall0, int0, intW, isiW, put, gdName, gdSub, gdTup, gdCons, gdNil, dPar, dPar3, dRaise, EndsR, dLc, dLcM, iSeq, iTupD, iLst, iZipD, iEnumD, iRg1, iRg2, iStrD, wipeR, wipeR.unput, dFor, lenW, sqW, lsW, allW, anyW, sumW, tupCW, lstCW, lstCMW, absW, intCW, strCW, eqW, neW, isNonW, notNonW, nonB, addW, addMW, mulLW, inW, cutW, dRev, dAppC, dPop, dLRg1, dLRg2, dSplitC, dJoinC, dIsi2, tyN, isi, Option.isSome_some, Option.isSome_none, deref_int, deref_bl, deref_str, deref_non, deref_tup, deref_lst, ok_int, ok_bl, ok_non, peq_int, Bool.not_true, Bool.not_false, decide_eq_true_eq, true_or, or_true, false_or, or_false, false_and, and_false, not_true_eq_false, not_false_eq_true, Bool.not_eq_true', decide_eq_false_iff_not, ex_ins, dFld, dFldS, dMeth, dMeth0, dMake, dProp, dAugO, boolOW, intSW, MO.ins.injEq, bd_frame, bd_every, bd_lots, bd_now, bd_past, bd_put_now, bd_put_past, bd_no_renew, bd_no_undo, bd_length, ini1, ini2, ini3, ini4, ini5, ini_e2, ini_e3, ini_l3, ini_n1, ini_n2, ini_n3, ini_n4]
      have e : oneCol every z = none := by
        unfold oneCol
        rw [eg, List.append_nil]; exact hf
      rw [e] at h
      exact Lt.of h
end
end NC

end
section
set_option Elab.async false
set_option linter.all false
set_option maxRecDepth 100000
set_option maxHeartbeats 4000000
namespace NC
open PySem PySem.Spec PyProof.Rows L2 RZ
section
variable {Pr : Program} {w : World} {K : PySem.W.Frag} {mg : Str → Option Value} {base : Heap}
def sp_shown : DSp := fun ds M Φ Ψ => ∃ (c : Nat) (every : List (List Int)) (lots : List (List (List Int))) (z : Str), ds = [.lst (every.map tupI), .lst (lots.map lotP), .str z] ∧ 1 ≤ c ∧ c ≤ 1000 ∧ RowsOk c every ∧ LotsOk every lots ∧ z.length ≤ 16 ∧ sOk z ∧ Φ (shownP every z) M
theorem ok_shown (T : Top K mg) : Fx Pr w K mg base 2 "shown" ["every", "lots", "colouring"] sp_shown := by
  refine fx_of T.d_shown sc_shown (fun _ _ _ _ _ _ us hl => match us, hl with | [_, _, _], _ => rfl) (fun f cdv A outer s H E Ψ hr tk => ⟨_, (dss_cons (ds_set (i := 3) (fun ht hh => ps_set sc_shown.nd rfl (by first | exact Or.inl rfl | exact Or.inr rfl) hh) (de_if (dt_cmp opd_lt (de_callB cd_len rfl T.m_len (by decide +kernel) (da_cons (de_var (pv 2)) da_nil)) (de_gint rfl T.c_MOST_SIGNS) (nomark _)) (de_gtup rfl T.c_COLOURS.1 T.c_COLOURS.2) (de_tup da_nil))) (dss_cons (ds_set (i := 4) (fun ht hh => ps_set sc_shown.nd rfl (by first | exact Or.inl rfl | exact Or.inr rfl) hh) (de_callT cd_tuple rfl T.m_tuple (by decide +kernel) (da_cons (de_lc (own := [("colour", 5)]) rfl sc_shown.nd (di_seq (de_var (pv 3))) (blkOk_by (sc := defScope s_shown) (own := [("colour", 5)]) (N := ["every", "lots", "colouring", "some", "free", "colour"]) (by decide +kernel)) (fun _ _ _ _ _ => (dgc_name (pg_name (i := 5) sc_shown.nd rfl (by first | exact Or.inl rfl | exact Or.inr rfl)) (by decide))) (fun _ _ _ _ _ => (dts_one (dt_tru (de_callF (ok_goes_on T) (hr.mono (by decide)) rfl takesN (da_cons (de_var (pv 1)) (da_cons (de_var (pv 2)) (da_cons (de_var (pv 5)) da_nil))))))) (fun _ _ _ _ _ => (de_callT cd_intS rfl T.m_int (by decide +kernel) (da_cons (de_var (pv 5)) da_nil)))) da_nil))) (dss_one (ds_ret (de_tup (da_cons (de_var (pv 2)) (da_cons (de_callF (ok_in_one_colour T) (hr.mono (by decide)) rfl tk (da_cons (de_var (pv 0)) (da_cons (de_var (pv 2)) da_nil))) (da_cons (de_var (pv 4)) da_nil)))))))), ?_⟩)
  intro ds M Φ hn h
  obtain ⟨c, every, lots, z, rfl, c1, c2, ro, lo, hz, zo, h⟩ := h
  have ep : ∀ row ∈ every, ∀ x ∈ row, 1 ≤ x := fun row hr x hx => (ro row hr).2 x hx
  have hl : z.length ≤ sizeLine := line_of (by omega)
  simp (decide := true) only [startR, exists_and_left, at0, at1, at2, ix30, ix31, ix32, List.set_cons_zero, List.set_cons_succ, Option.some.injEq, MO.lst.injEq, P.int.injEq, P.tup.injEq, P.lst.injEq, exists_eq_left, exists_eq_left', exists_eq, updM_same, updM_updM, reduceCtorEq, List.length_map, List.map_cons, List.map_nil, List.length_cons, List.length_nil, Nat.reduceAdd, Nat.reduceSub, List.replicate_zero, List.replicate_succ, List.cons_append, List.nil_append, List.append_nil, List.append_assoc, Nat.sub_self, true_and, and_true, if_true, Bool.false_eq_true, if_false, dSeq, dNext, dIfS, dRet, dRetN, dAsg, dDrop, dVar, lk, dC, dCons, dNil, dTup, dLst, dLstM, dFz, dBin, dTest, asB, dChain, dTru, truW, dAnd, dOr, dNot, dAndV, dOrV, dNotV, dNeg, dIf, idxW, dNo, dSo, dCut, dCB, dCall, dCall0, int0, intW, isiW, put, gdName, gdSub, gdTup, gdCons, gdNil, dPar, dPar3, dRaise, EndsR, dLc, dLcM, iSeq, iTupD, iLst, iZipD, iEnumD, iRg1, iRg2, iStrD, wipeR, wipeR.unput, dFor, lenW, sqW, lsW, allW, anyW, sumW, tupCW, lstCW, lstCMW, absW, intCW, strCW, eqW, neW, isNonW, notNonW, nonB, addW, addMW, mulLW, inW, cutW, dRev, dAppC, dPop, dLRg1, dLRg2, dSplitC, dJoinC, dIsi2, tyN, isi, Option.isSome_some, Option.isSome_none, deref_int, deref_bl, deref_str, deref_non, deref_tup, deref_lst, ok_int, ok_bl, ok_non, peq_int, Bool.not_true, Bool.not_false, decide_eq_true_eq, true_or, or_true, false_or, or_false, false_and, and_false, not_true_eq_false, not_false_eq_true, Bool.not_eq_true', decide_eq_false_iff_not, ex_ins, dFld, dFldS, dMeth, dMeth0, dMake, dProp, dAugO, boolOW, intSW, MO.ins.injEq, bd_frame, bd_every, bd_lots, bd_now, bd_past, bd_put_now, bd_put_past, bd_no_renew, bd_no_undo, bd_length, ini1, ini2, ini3, ini4, ini5, ini_e2, ini_e3, ini_l3, ini_n1, ini_n2, ini_n3, ini_n4, hl]
  split
  · rename_i q
    have q16 : z.length < 16 := by omega
    have e4 : [P.str (Str.ofString "0"), P.str (Str.ofString "1"), P.str (Str.ofString "2"), P.str (Str.ofString "3")] = (List.range 4).map fun i => P.str (cs i) := by
      have := congrArg (List.map P.str) colours4
      rw [List.map_map] at this
      exact this
    rw [e4]
    refine lc_pure (fun p => match p with | .str s => goesOn every z s | _ => false) (fun p => match p with | .str s => .int ((PySem.intText? s).getD 0) | q => q) (fun p hp k k0 hk hk0 => ?_) ?_
    · obtain ⟨i, hi, rfl⟩ := List.mem_map.mp hp
      have hi := List.mem_range.mp hi
      have hci := cs_len (i := i) (by omega)
      simp (decide := true) only [startR, exists_and_left, at0, at1, at2, ix30, ix31, ix32, List.set_cons_zero, List.set_cons_succ, Option.some.injEq, MO.lst.injEq, P.int.injEq, P.tup.injEq, P.lst.injEq, exists_eq_left, exists_eq_left', exists_eq, updM_same, updM_updM, reduceCtorEq, List.length_map, List.map_cons, List.map_nil, List.length_cons, List.length_nil, Nat.reduceAdd, Nat.reduceSub, List.replicate_zero, List.replicate_succ, List.cons_append, List.nil_append, List.append_nil, List.append_assoc, Nat.sub_self, true_and, and_true, if_true, Bool.false_eq_true, if_false, dSeq, dNext, dIfS, dRet, dRetN, dAsg, dDrop, dVar, lk, dC, dCons, dNil, dTup, dLst, dLstM, dFz, dBin, dTest, asB, dChain, dTru, truW, dAnd, dOr, dNot, dAndV, dOrV, dNotV, dNeg, dIf, idxW, dNo, dSo, dCut, dCB, dCall, dCall0, int0, intW, isiW, put, gdName, gdSub, gdTup, gdCons, gdNil, dPar, dPar3, dRaise, EndsR, dLc, dLcM, iSeq, iTupD, iLst, iZipD, iEnumD, iRg1, iRg2, iStrD, wipeR, wipeR.unput, dFor, lenW, sqW, lsW, allW, anyW, sumW, tupCW, lstCW, lstCMW, absW, intCW, strCW, eqW, neW, isNonW, notNonW, nonB, addW, addMW, mulLW, inW, cutW, dRev, dAppC, dPop, dLRg1, dLRg2, dSplitC, dJoinC, dIsi2, tyN, isi, Option.isSome_some, Option.isSome_none, deref_int, deref_bl, deref_str, deref_non, deref_tup, deref_lst, ok_int, ok_bl, ok_non, peq_int, Bool.not_true, Bool.not_false, decide_eq_true_eq, true_or, or_true, false_or, or_false, false_and, and_false, not_true_eq_false, not_false_eq_true, Bool.not_eq_true', decide_eq_false_iff_not, ex_ins, dFld, dFldS, dMeth, dMeth0, dMake, dProp, dAugO, boolOW, intSW, MO.ins.injEq, bd_frame, bd_every, bd_lots, bd_now, bd_past, bd_put_now, bd_put_past, bd_no_renew, bd_no_undo, bd_length, ini1, ini2, ini3, ini4, ini5, ini_e2, ini_e3, ini_l3, ini_n1, ini_n2, ini_n3, ini_n4, sp_goes_on]
      refine ⟨every, lots, z, cs i, rfl, lo, ep, by omega, zo, sOk_cs (by omega), ?_⟩
      have hk : goesOn every z (cs i) = true → k (.int ((PySem.intText? (cs i)).getD 0)) M := hk
      have hk0 : goesOn every z (cs i) = false → k0 M := hk0
      cases q2 : goesOn every z (cs i) with
      | true =>
        rw [if_pos rfl]
        refine ⟨i, int_cs' hi, by omega, ?_⟩
        have := hk q2
        rw [int_cs' hi] at this
        exact this
      | false =>
        rw [if_neg (by decide)]
        exact hk0 q2
    · have ef : (((List.range 4).map fun i => P.str (cs i)).filter fun p => match p with | .str s => goesOn every z s | _ => false) = ((List.range 4).filter fun i => goesOn every z (cs i)).map fun i => P.str (cs i) := by
        rw [List.filter_map]; rfl
      have em : ((((List.range 4).filter fun i => goesOn every z (cs i)).map fun i => P.str (cs i)).map fun p => match p with | .str s => P.int ((PySem.intText? s).getD 0) | q => q) = (freeL every z).map fun i : Nat => P.int (i : Int) := by
        unfold freeL
        rw [if_pos q16, List.map_map]
        refine List.map_congr_left fun i hi => ?_
        have hi := List.mem_range.mp (List.mem_filter.mp hi).1
        show P.int ((PySem.intText? (cs i)).getD 0) = _
        rw [int_cs' hi]; rfl
      rw [List.nil_append, ef, em]
      refine ⟨c, every, z, rfl, c1, c2, ro, by omega, ?_⟩
      exact Lt.of h
  · rename_i q
    have e : freeL every z = [] := by
      unfold freeL
      rw [if_neg (by omega)]
    have e2 : shownP every z = .tup [.str z, optP (oneCol every z), .tup []] := by
      unfold shownP
      rw [e]; rfl
    rw [e2] at h
    simp only [lcW]
    exact ⟨c, every, z, rfl, c1, c2, ro, by omega, Lt.of h⟩
end
end NC

end
section
set_option Elab.async false
set_option linter.all false
set_option maxRecDepth 100000
set_option maxHeartbeats 4000000
namespace NC
open PySem PySem.Spec PyProof.Rows L2 RZ
section
variable {Pr : Program} {w : World} {K : PySem.W.Frag} {mg : Str → Option Value} {base : Heap}
def sp_Board___init__ (K : PySem.W.Frag) : DSp := fun ds M Φ Ψ => ∃ (b dx : Addr) (L : List (List Int)), ds = [.ref b, sysP L] ∧ SysOk L ∧ cols L ≤ 4 ∧ M b = some (.ins (He.ga K "Board") dx []) ∧ ∀ lots, LotsOk (ansU L 16 false) lots → Φ .non (updM M b (.ins (He.ga K "Board") dx (bdF L lots Str.empty [])))
theorem ok_Board___init__ (T : Top K mg) (hP : Pr = PR := by rfl) : Fi Pr w K mg base 5 (He.ga K "Board") ["self", "system"] (sp_Board___init__ K) := by
  subst hP
  refine fi_of T.i_Board___init__ sc_Board___init__ (fun _ _ _ _ _ _ us hl => match us, hl with | [_, _], _ => rfl) (fun f cdv A outer s H E Ψ hr tk => ⟨_, (dss_cons (ds_expr (de_callF (ok_need_system T) (hr.mono (by decide)) rfl tk (da_cons (de_var (pv 1)) da_nil))) (dss_cons (ds_expr (de_callF (ok_need_few T) (hr.mono (by decide)) rfl tk (da_cons (de_var (pv 1)) da_nil))) (dss_cons (ds_fld T.b_Board T.n_Board_frame (de_var (pv 1)) (de_var (pv 0))) (dss_cons (ds_fld T.b_Board T.n_Board_every (de_callF (ok_all_answers T) (hr.mono (by decide)) rfl tk (da_cons (de_var (pv 1)) (da_cons (de_gint rfl T.c_MOST_SIGNS) (da_cons de_bl da_nil)))) (de_var (pv 0))) (dss_cons (ds_fld T.b_Board T.n_Board_lots (de_callF (ok_lots_by T) (hr.mono (by decide)) rfl tk (da_cons (de_fld T.b_Board T.n_Board_every (de_var (pv 0))) da_nil)) (de_var (pv 0))) (dss_cons (ds_fld T.b_Board T.n_Board_now (de_callF (ok_shown T) (hr.mono (by decide)) rfl tk (da_cons (de_fld T.b_Board T.n_Board_every (de_var (pv 0))) (da_cons (de_fld T.b_Board T.n_Board_lots (de_var (pv 0))) (da_cons de_str da_nil)))) (de_var (pv 0))) (dss_one (ds_fld T.b_Board T.n_Board_past (de_tup da_nil) (de_var (pv 0)))))))))), ?_⟩)
  intro ds M Φ hn h
  obtain ⟨b, dx, L, rfl, so, c4, hM, h⟩ := h
  have c4' : ¬ 4 < cols L := by omega
  have ar := ans_rows (b := false) so c4' (Nat.le_refl 16)
  have ro : RowsOk (cols L) (ansU L 16 false) := fun row hr => ⟨(ansU_mem hr).1, fun x hx => ((ansU_mem hr).2 x hx).1⟩
  simp (decide := true) only [startR, exists_and_left, at0, at1, at2, ix30, ix31, ix32, List.set_cons_zero, List.set_cons_succ, Option.some.injEq, MO.lst.injEq, P.int.injEq, P.tup.injEq, P.lst.injEq, exists_eq_left, exists_eq_left', exists_eq, updM_same, updM_updM, reduceCtorEq, List.length_map, List.map_cons, List.map_nil, List.length_cons, List.length_nil, Nat.reduceAdd, Nat.reduceSub, List.replicate_zero, List.replicate_succ, List.cons_append, List.nil_append, List.append_nil, List.append_assoc, Nat.sub_self, true_and, and_true, if_true, Bool.false_eq_true, if_false, dSeq, dNext, dIfS, dRet, dRetN, dAsg, dDrop, dVar, lk, dC, dCons, dNil, dTup, dLst, dLstM, dFz, dBin, dTest, asB, dChain, dTru, truW, dAnd, dOr, dNot, dAndV, dOrV, dNotV, dNeg, dIf, idxW, dNo, dSo, dCut, dCB, dCall, dCall0, int0, intW, isiW, put, gdName, gdSub, gdTup, gdCons, gdNil, dPar, dPar3, dRaise, EndsR, dLc, dLcM, iSeq, iTupD, iLst, iZipD, iEnumD, iRg1, iRg2, iStrD, wipeR, wipeR.unput, dFor, lenW, sqW, lsW, allW, anyW, sumW, tupCW, lstCW, lstCMW, absW, intCW, strCW, eqW, neW, isNonW, notNonW, nonB, addW, addMW, mulLW, inW, cutW, dRev, dAppC, dPop, dLRg1, dLRg2, dSplitC, dJoinC, dIsi2, tyN, isi, Option.isSome_some, Option.isSome_none, deref_int, deref_bl, deref_str, deref_non, deref_tup, deref_lst, ok_int, ok_bl, ok_non, peq_int, Bool.not_true, Bool.not_false, decide_eq_true_eq, true_or, or_true, false_or, or_false, false_and, and_false, not_true_eq_false, not_false_eq_true, Bool.not_eq_true', decide_eq_false_iff_not, ex_ins, dFld, dFldS, dMeth, dMeth0, dMake, dProp, dAugO, boolOW, intSW, MO.ins.injEq, bd_frame, bd_every, bd_lots, bd_now, bd_past, bd_put_now, bd_put_past, bd_no_renew, bd_no_undo, bd_length, ini1, ini2, ini3, ini4, ini5, ini_e2, ini_e3, ini_l3, ini_n1, ini_n2, ini_n3, ini_n4, sp_need_system, sp_need_few, sp_all_answers, sp_lots_by, sp_shown, hM]
  refine ⟨fit_sysP L, ?_⟩
  rw [if_pos (isSys_sysP so)]
  refine ⟨L, rfl, so, ?_⟩
  rw [if_neg c4']
  refine ⟨L, 16, false, rfl, so, by omega, ans_few c4' (Nat.le_refl 16), ansU L 16 false, rfl, Nat.le_trans ansU_length (ans_few c4' (Nat.le_refl 16)), ar, fun lots lo => ?_⟩
  refine ⟨cols L, ansU L 16 false, lots, Str.empty, rfl, so.c1, by omega, ro, lo, Nat.zero_le _, by decide +kernel, ?_⟩
  exact Lt.of (h lots lo)
end
end NC

end
section
set_option Elab.async false
set_option linter.all false
set_option maxRecDepth 100000
set_option maxHeartbeats 4000000
namespace NC
open PySem PySem.Spec PyProof.Rows L2 RZ
section
variable {Pr : Program} {w : World} {K : PySem.W.Frag} {mg : Str → Option Value} {base : Heap}
def sp_l_deck : DSp := fun ds M Φ Ψ => match ds with
  | [.int c, .int t] => 0 ≤ t ∧ ∀ a M1, M a = none → Drawn M a t.toNat M1 → Φ (.ref a) M1
  | _ => False
theorem ok_l_deck (T : Top K mg) : Fx Pr w K mg base 1 "_law_deck" ["cell", "turn"] sp_l_deck := by
  refine fx_of T.d_l_deck sc_l_deck (fun _ _ _ _ _ _ us hl => match us, hl with | [_, _], _ => rfl) (fun f cdv A outer s H E Ψ hr tk => ⟨_, (dss_cons (ds_if (dt_cmp opd_ge (de_var (pv 0)) (de_bin opd_pow de_int de_int) (nomark _)) (dss_one (ds_ret (de_lstM (da_cons (de_bin opd_sub (de_var (pv 0)) (de_bin opd_pow de_int de_int)) (da_cons (de_bin opd_mod (de_var (pv 0)) de_int) (da_cons (de_var (pv 1)) da_nil)))))) dss_nil) (dss_one (ds_ret (de_lstM (da_cons de_int (da_cons (de_bin opd_mod (de_var (pv 0)) de_int) (da_cons (de_var (pv 1)) da_nil))))))), ?_⟩)
  intro ds M Φ hn h
  match ds, h with
  | [.int c, .int t], ⟨h1, h⟩ =>
    simp (decide := true) only [startR, exists_and_left, at0, at1, at2, ix30, ix31, ix32, List.set_cons_zero, List.set_cons_succ, Option.some.injEq, MO.lst.injEq, P.int.injEq, P.tup.injEq, P.lst.injEq, exists_eq_left, exists_eq_left', exists_eq, updM_same, updM_updM, reduceCtorEq, List.length_map, List.map_cons, List.map_nil, List.length_cons, List.length_nil, Nat.reduceAdd, Nat.reduceSub, List.replicate_zero, List.replicate_succ, List.cons_append, List.nil_append, List.append_nil, List.append_assoc, Nat.sub_self, true_and, and_true, if_true, Bool.false_eq_true, if_false, dSeq, dNext, dIfS, dRet, dRetN, dAsg, dDrop, dVar, lk, dC, dCons, dNil, dTup, dLst, dLstM, dFz, dBin, dTest, asB, dChain, dTru, truW, dAnd, dOr, dNot, dAndV, dOrV, dNotV, dNeg, dIf, idxW, dNo, dSo, dCut, dCB, dCall, dCall0, int0, intW, isiW, put, gdName, gdSub, gdTup, gdCons, gdNil, dPar, dPar3, dRaise, EndsR, dLc, dLcM, iSeq, iTupD, iLst, iZipD, iEnumD, iRg1, iRg2, iStrD, wipeR, wipeR.unput, dFor, lenW, sqW, lsW, allW, anyW, sumW, tupCW, lstCW, lstCMW, absW, intCW, strCW, eqW, neW, isNonW, notNonW, nonB, addW, addMW, mulLW, inW, cutW, dRev, dAppC, dPop, dLRg1, dLRg2, dSplitC, dJoinC, dIsi2, tyN, isi, Option.isSome_some, Option.isSome_none, deref_int, deref_bl, deref_str, deref_non, deref_tup, deref_lst, ok_int, ok_bl, ok_non, peq_int, Bool.not_true, Bool.not_false, decide_eq_true_eq, true_or, or_true, false_or, or_false, false_and, and_false, not_true_eq_false, not_false_eq_true, Bool.not_eq_true', decide_eq_false_iff_not, ex_ins, dFld, dFldS, dMeth, dMeth0, dMake, dProp, dAugO, boolOW, intSW, MO.ins.injEq, bd_frame, bd_every, bd_lots, bd_now, bd_past, bd_put_now, bd_put_past, bd_no_renew, bd_no_undo, bd_length, ini1, ini2, ini3, ini4, ini5, ini_e2, ini_e3, ini_l3, ini_n1, ini_n2, ini_n3, ini_n4]
    have e18 : (10 : Int) ^ (18 : Int).toNat = 1000000000000000000 := by decide
    have p18 : CPowW 10 18 := powOk (by decide) (by decide) (by decide) (by decide)
    have m1 := Int.emod_nonneg c (show (2147483579 : Int) ≠ 0 by decide)
    have m2 := Int.emod_lt_of_pos c (show (0 : Int) < 2147483579 by decide)
    refine ⟨p18, ?_⟩
    rw [e18]
    have go : ∀ (a : Int) (k : Addr), 0 ≤ a → M k = none → Lt Φ (.ref k) (updM M k (.lst [.int a, .int (c % 2147483579), .int t])) := fun a k ha hk =>
      Lt.of (h k _ hk ⟨⟨a, _, t, updM_same, ha, m1, m2, h1, by omega⟩, fun j hj => updM_ne hj⟩)
    split
    · rename_i q
      refine ⟨p18, fun k hk => ?_⟩
      exact go _ k (by omega) hk
    · exact fun k hk => go _ k (by decide) hk
end
end NC

end
section
set_option Elab.async false
set_option linter.all false
set_option maxRecDepth 100000
set_option maxHeartbeats 4000000
namespace NC
open PySem PySem.Spec PyProof.Rows L2 RZ
section
variable {Pr : Program} {w : World} {K : PySem.W.Frag} {mg : Str → Option Value} {base : Heap}
def sp_first_avoiding : DSp := fun ds M Φ Ψ => ∃ (every : List (List Int)) (lots : List (List (List Int))) (colours many : Nat), ds = [.lst (lots.map lotP), .int colours, .int many] ∧ LotsOk every lots ∧ (∀ row ∈ every, ∀ x ∈ row, 1 ≤ x) ∧ colours ≤ 4 ∧ many ≤ 16 ∧ Φ (optS (firstC every colours many)) M
theorem kids_rev (every : List (List Int)) (colours : Nat) (z : Str) : ((itoa ((colours : Int) - 1) colours).filter fun p => match p with | .int j => goesOn every z (toString j : Str) | _ => false).map (fun p => match p with | .int j => P.str (z ++ (toString j : Str)) | q => q) = (kids every colours z).reverse.map P.str := by
  have e : itoa ((colours : Int) - 1) colours = ((List.range colours).map fun i : Nat => P.int (i : Int)).reverse := by
    unfold itoa
    rw [← List.map_reverse]
    refine List.ext_getElem (by simp) fun i h1 h2 => ?_
    simp at h1 ⊢
    omega
  rw [e, List.filter_reverse, List.map_reverse, List.map_reverse]
  congr 1
  unfold kids cs
  rw [List.filter_map, List.map_map, List.map_map]
  simp only [Function.comp_def]
theorem ok_strs {line : List Str} (h : ∀ z ∈ line, sOk z) : okP (.lst (line.map P.str)) = true := by
  have f : ∀ l : List Str, (∀ z ∈ l, sOk z) → fitPs (l.map P.str) = true ∧ dpPs (l.map P.str) = 0 := fun l => by
    induction l with
    | nil => exact fun _ => ⟨rfl, rfl⟩
    | cons z l ih =>
      intro hz
      obtain ⟨a, b⟩ := ih fun y hy => hz y (List.mem_cons_of_mem _ hy)
      refine ⟨?_, ?_⟩
      · show (fitP (.str z) && fitPs (l.map P.str)) = true
        rw [a, show fitP (.str z) = true from hz z List.mem_cons_self]; rfl
      · show max (dpP (.str z)) (dpPs (l.map P.str)) = 0
        rw [b]; rfl
  obtain ⟨a, b⟩ := f line h
  exact ok_lst a (by omega)
theorem ok_first_avoiding (T : Top K mg) : Fx Pr w K mg base 2 "first_avoiding" ["lots", "colours", "many"] sp_first_avoiding := by
  refine fx_of T.d_first_avoiding sc_first_avoiding (fun _ _ _ _ _ _ us hl => match us, hl with | [_, _, _], _ => rfl) (fun f cdv A outer s H E Ψ hr tk => ⟨_, (dss_cons (ds_set (i := 3) (fun ht hh => ps_set sc_first_avoiding.nd rfl (by first | exact Or.inl rfl | exact Or.inr rfl) hh) (de_lstM (da_cons de_str da_nil))) (dss_cons (ds_while (passes_of rfl) (dt_cmp (opd_ne hr.units) (de_var (pv 3)) (de_lst da_nil) (nomark _)) (dss_cons (ds_set (i := 4) (fun ht hh => ps_set sc_first_avoiding.nd rfl (by first | exact Or.inl rfl | exact Or.inr rfl) hh) (de_pop (de_var (pv 3)))) (dss_cons (ds_if (dt_cmp (opd_eq hr.units) (de_callB cd_len rfl T.m_len (by decide +kernel) (da_cons (de_var (pv 4)) da_nil)) (de_var (pv 2)) (nomark _)) (dss_one (ds_ret (de_var (pv 4)))) dss_nil) (dss_one (ds_set (i := 3) (fun ht hh => ps_set sc_first_avoiding.nd rfl (by first | exact Or.inl rfl | exact Or.inr rfl) hh) (de_bin opd_addM (de_var (pv 3)) (de_lc (own := [("colour", 5)]) rfl sc_first_avoiding.nd (di_rg3 rfl T.m_range (da_cons (de_bin opd_sub (de_var (pv 1)) de_int) (da_cons (de_neg de_int) (da_cons (de_neg de_int) da_nil)))) (blkOk_by (sc := defScope s_first_avoiding) (own := [("colour", 5)]) (N := ["lots", "colours", "many", "line", "colouring", "colour"]) (by decide +kernel)) (fun _ _ _ _ _ => (dgc_name (pg_name (i := 5) sc_first_avoiding.nd rfl (by first | exact Or.inl rfl | exact Or.inr rfl)) (by decide))) (fun _ _ _ _ _ => (dts_one (dt_tru (de_callF (ok_goes_on T) (hr.mono (by decide)) rfl takesN (da_cons (de_var (pv 0)) (da_cons (de_var (pv 4)) (da_cons (de_callT cd_str rfl T.m_str (by decide +kernel) (da_cons (de_var (pv 5)) da_nil)) da_nil))))))) (fun _ _ _ _ _ => (de_bin opd_add (de_var (pv 4)) (de_callT cd_str rfl T.m_str (by decide +kernel) (da_cons (de_var (pv 5)) da_nil))))))))))) (dss_one (ds_ret de_non)))), ?_⟩)
  intro ds M Φ hn h
  obtain ⟨every, lots, colours, many, rfl, lo, ep, hc, hm, h⟩ := h
  simp (decide := true) only [startR, exists_and_left, at0, at1, at2, ix30, ix31, ix32, List.set_cons_zero, List.set_cons_succ, Option.some.injEq, MO.lst.injEq, P.int.injEq, P.tup.injEq, P.lst.injEq, exists_eq_left, exists_eq_left', exists_eq, updM_same, updM_updM, reduceCtorEq, List.length_map, List.map_cons, List.map_nil, List.length_cons, List.length_nil, Nat.reduceAdd, Nat.reduceSub, List.replicate_zero, List.replicate_succ, List.cons_append, List.nil_append, List.append_nil, List.append_assoc, Nat.sub_self, true_and, and_true, if_true, Bool.false_eq_true, if_false, dSeq, dNext, dIfS, dRet, dRetN, dAsg, dDrop, dVar, lk, dC, dCons, dNil, dTup, dLst, dLstM, dFz, dBin, dTest, asB, dChain, dTru, truW, dAnd, dOr, dNot, dAndV, dOrV, dNotV, dNeg, dIf, idxW, dNo, dSo, dCut, dCB, dCall, dCall0, int0, intW, isiW, put, gdName, gdSub, gdTup, gdCons, gdNil, dPar, dPar3, dRaise, EndsR, dLc, dLcM, iSeq, iTupD, iLst, iZipD, iEnumD, iRg1, iRg2, iStrD, wipeR, wipeR.unput, dFor, lenW, sqW, lsW, allW, anyW, sumW, tupCW, lstCW, lstCMW, absW, intCW, strCW, eqW, neW, isNonW, notNonW, nonB, addW, addMW, mulLW, inW, cutW, dRev, dAppC, dPop, dLRg1, dLRg2, dSplitC, dJoinC, dIsi2, tyN, isi, Option.isSome_some, Option.isSome_none, deref_int, deref_bl, deref_str, deref_non, deref_tup, deref_lst, ok_int, ok_bl, ok_non, peq_int, Bool.not_true, Bool.not_false, decide_eq_true_eq, true_or, or_true, false_or, or_false, false_and, and_false, not_true_eq_false, not_false_eq_true, Bool.not_eq_true', decide_eq_false_iff_not, ex_ins, dFld, dFldS, dMeth, dMeth0, dMake, dProp, dAugO, boolOW, intSW, MO.ins.injEq, bd_frame, bd_every, bd_lots, bd_now, bd_past, bd_put_now, bd_put_past, bd_no_renew, bd_no_undo, bd_length, ini1, ini2, ini3, ini4, ini5, ini_e2, ini_e3, ini_l3, ini_n1, ini_n2, ini_n3, ini_n4]
  intro a ha
  refine ⟨fun m ρ M' => ∃ (line : List Str) (b : Addr) (t4 t5 : Option P), m = steps many line ∧ M' b = some (.lst (line.map P.str)) ∧ (ahead every colours many line).head? = firstC every colours many ∧ Stack line ∧ (∀ z ∈ line, z.length ≤ many ∧ sOk z) ∧ (∀ j o, M j = some o → j ≠ b ∧ M' j = some o) ∧ ρ = [some (.lst (lots.map lotP)), some (.int colours), some (.int many), some (.ref b), t4, t5], ⟨_, [Str.empty], a, _, _, rfl, updM_same, ?_, stack_one, fun z hz => ?_, fun j o e => ?_, rfl⟩, fun m ρ M' hI => ?_⟩
  · unfold firstC
    rw [rows_ext]
    show ([Str.empty].flatMap _).head? = _
    rw [List.flatMap_cons, List.flatMap_nil, List.append_nil]; rfl
  · rw [List.mem_singleton.mp hz]
    exact ⟨Nat.zero_le _, sOk_iff.mpr fun c hc => absurd hc List.not_mem_nil⟩
  · have hj : j ≠ a := fun z => by rw [z, ha] at e; cases e
    exact ⟨hj, by rw [updM_ne hj]; exact e⟩
  · obtain ⟨line, b, t4, t5, rfl, hb, hah, hst, hz, hMo, rfl⟩ := hI
    have ed : deref M' (.ref b) = .lst (line.map P.str) := by unfold deref; simp only [hb]
    simp (decide := true) only [startR, exists_and_left, at0, at1, at2, ix30, ix31, ix32, List.set_cons_zero, List.set_cons_succ, Option.some.injEq, MO.lst.injEq, P.int.injEq, P.tup.injEq, P.lst.injEq, exists_eq_left, exists_eq_left', exists_eq, updM_same, updM_updM, reduceCtorEq, List.length_map, List.map_cons, List.map_nil, List.length_cons, List.length_nil, Nat.reduceAdd, Nat.reduceSub, List.replicate_zero, List.replicate_succ, List.cons_append, List.nil_append, List.append_nil, List.append_assoc, Nat.sub_self, true_and, and_true, if_true, Bool.false_eq_true, if_false, dSeq, dNext, dIfS, dRet, dRetN, dAsg, dDrop, dVar, lk, dC, dCons, dNil, dTup, dLst, dLstM, dFz, dBin, dTest, asB, dChain, dTru, truW, dAnd, dOr, dNot, dAndV, dOrV, dNotV, dNeg, dIf, idxW, dNo, dSo, dCut, dCB, dCall, dCall0, int0, intW, isiW, put, gdName, gdSub, gdTup, gdCons, gdNil, dPar, dPar3, dRaise, EndsR, dLc, dLcM, iSeq, iTupD, iLst, iZipD, iEnumD, iRg1, iRg2, iStrD, wipeR, wipeR.unput, dFor, lenW, sqW, lsW, allW, anyW, sumW, tupCW, lstCW, lstCMW, absW, intCW, strCW, eqW, neW, isNonW, notNonW, nonB, addW, addMW, mulLW, inW, cutW, dRev, dAppC, dPop, dLRg1, dLRg2, dSplitC, dJoinC, dIsi2, tyN, isi, Option.isSome_some, Option.isSome_none, deref_int, deref_bl, deref_str, deref_non, deref_tup, deref_lst, ok_int, ok_bl, ok_non, peq_int, Bool.not_true, Bool.not_false, decide_eq_true_eq, true_or, or_true, false_or, or_false, false_and, and_false, not_true_eq_false, not_false_eq_true, Bool.not_eq_true', decide_eq_false_iff_not, ex_ins, dFld, dFldS, dMeth, dMeth0, dMake, dProp, dAugO, boolOW, intSW, MO.ins.injEq, bd_frame, bd_every, bd_lots, bd_now, bd_past, bd_put_now, bd_put_past, bd_no_renew, bd_no_undo, bd_length, ini1, ini2, ini3, ini4, ini5, ini_e2, ini_e3, ini_l3, ini_n1, ini_n2, ini_n3, ini_n4, hb, ed, peq_nil, iRg3]
    refine ⟨ok_strs fun z hz' => (hz z hz').2, ?_⟩
    · rcases List.eq_nil_or_concat line with e0 | ⟨pre, z, e0⟩
      · subst e0
        rw [if_neg (by simp)]
        have e : firstC every colours many = none := by rw [← hah]; rfl
        rw [e] at h
        exact ⟨M, fun j o hj => (hMo j o hj).2, h⟩
      · rw [List.concat_eq_append] at e0
        subst e0
        have ez : ((pre ++ [z]).map P.str)[(pre ++ [z]).length - 1]? = some (.str z) := by
          rw [List.map_append, List.length_append, List.length_singleton, Nat.add_sub_cancel, List.getElem?_append_right (by simp), List.length_map, Nat.sub_self]; rfl
        obtain ⟨hzl, hzo⟩ := hz z (by simp)
        rw [if_pos (by simp)]
        refine ⟨.str z, ez, ?_⟩
        have hpre : ((pre ++ [z]).map P.str).dropLast = pre.map P.str := by rw [List.map_append]; exact List.dropLast_concat
        rw [hpre]
        simp (decide := true) only [startR, exists_and_left, at0, at1, at2, ix30, ix31, ix32, List.set_cons_zero, List.set_cons_succ, Option.some.injEq, MO.lst.injEq, P.int.injEq, P.tup.injEq, P.lst.injEq, exists_eq_left, exists_eq_left', exists_eq, updM_same, updM_updM, reduceCtorEq, List.length_map, List.map_cons, List.map_nil, List.length_cons, List.length_nil, Nat.reduceAdd, Nat.reduceSub, List.replicate_zero, List.replicate_succ, List.cons_append, List.nil_append, List.append_nil, List.append_assoc, Nat.sub_self, true_and, and_true, if_true, Bool.false_eq_true, if_false, dSeq, dNext, dIfS, dRet, dRetN, dAsg, dDrop, dVar, lk, dC, dCons, dNil, dTup, dLst, dLstM, dFz, dBin, dTest, asB, dChain, dTru, truW, dAnd, dOr, dNot, dAndV, dOrV, dNotV, dNeg, dIf, idxW, dNo, dSo, dCut, dCB, dCall, dCall0, int0, intW, isiW, put, gdName, gdSub, gdTup, gdCons, gdNil, dPar, dPar3, dRaise, EndsR, dLc, dLcM, iSeq, iTupD, iLst, iZipD, iEnumD, iRg1, iRg2, iStrD, wipeR, wipeR.unput, dFor, lenW, sqW, lsW, allW, anyW, sumW, tupCW, lstCW, lstCMW, absW, intCW, strCW, eqW, neW, isNonW, notNonW, nonB, addW, addMW, mulLW, inW, cutW, dRev, dAppC, dPop, dLRg1, dLRg2, dSplitC, dJoinC, dIsi2, tyN, isi, Option.isSome_some, Option.isSome_none, deref_int, deref_bl, deref_str, deref_non, deref_tup, deref_lst, ok_int, ok_bl, ok_non, peq_int, Bool.not_true, Bool.not_false, decide_eq_true_eq, true_or, or_true, false_or, or_false, false_and, and_false, not_true_eq_false, not_false_eq_true, Bool.not_eq_true', decide_eq_false_iff_not, ex_ins, dFld, dFldS, dMeth, dMeth0, dMake, dProp, dAugO, boolOW, intSW, MO.ins.injEq, bd_frame, bd_every, bd_lots, bd_now, bd_past, bd_put_now, bd_put_past, bd_no_renew, bd_no_undo, bd_length, ini1, ini2, ini3, ini4, ini5, ini_e2, ini_e3, ini_l3, ini_n1, ini_n2, ini_n3, ini_n4]
        refine ⟨line_of (by omega), ?_⟩
        by_cases q : z.length = many
        · rw [if_pos (by omega)]
          have e : firstC every colours many = some z := by rw [← hah]; exact ahead_done q
          rw [e] at h
          refine ⟨M, fun j o hj => ?_, h⟩
          obtain ⟨h1, h2⟩ := hMo j o hj
          rw [updM_ne h1]; exact h2
        · rw [if_neg (by omega)]
          have lt : z.length < many := by omega
          have hc10 : colours ≤ 10 := by omega
          have itl : (itoa ((colours : Int) - 1) ((colours : Int) - 1 - -1).toNat) = itoa ((colours : Int) - 1) colours := by rw [show ((colours : Int) - 1 - -1).toNat = colours by omega]
          have iln : (itoa ((colours : Int) - 1) colours).length = colours := by unfold itoa; rw [List.length_map, List.length_range]
          rw [itl, iln]
          refine ⟨⟨by omega, by omega⟩, line_of (by omega), lc_pure (fun p => match p with | .int j => goesOn every z (toString j : Str) | _ => false) (fun p => match p with | .int j => .str (z ++ (toString j : Str)) | q => q) (fun p hp k k0 hk hk0 => ?_) ?_⟩
          · obtain ⟨i, hi, rfl⟩ := List.mem_map.mp hp
            have hi := List.mem_range.mp hi
            obtain ⟨d, hd, hd4⟩ : ∃ d : Nat, (colours : Int) - 1 + (i : Nat) * (-1) = (d : Int) ∧ d < 4 := ⟨colours - 1 - i, by omega, by omega⟩
            rw [hd] at hk hk0
            have hk : goesOn every z (cs d) = true → k (.str (z ++ cs d)) (updM M' b (.lst (pre.map P.str))) := hk
            have hk0 : goesOn every z (cs d) = false → k0 (updM M' b (.lst (pre.map P.str))) := hk0
            have ecs : (toString (d : Int) : Str) = cs d := rfl
            have hl1 := cs_len (i := d) (by omega)
            simp (decide := true) only [startR, exists_and_left, at0, at1, at2, ix30, ix31, ix32, List.set_cons_zero, List.set_cons_succ, Option.some.injEq, MO.lst.injEq, P.int.injEq, P.tup.injEq, P.lst.injEq, exists_eq_left, exists_eq_left', exists_eq, updM_same, updM_updM, reduceCtorEq, List.length_map, List.map_cons, List.map_nil, List.length_cons, List.length_nil, Nat.reduceAdd, Nat.reduceSub, List.replicate_zero, List.replicate_succ, List.cons_append, List.nil_append, List.append_nil, List.append_assoc, Nat.sub_self, true_and, and_true, if_true, Bool.false_eq_true, if_false, dSeq, dNext, dIfS, dRet, dRetN, dAsg, dDrop, dVar, lk, dC, dCons, dNil, dTup, dLst, dLstM, dFz, dBin, dTest, asB, dChain, dTru, truW, dAnd, dOr, dNot, dAndV, dOrV, dNotV, dNeg, dIf, idxW, dNo, dSo, dCut, dCB, dCall, dCall0, int0, intW, isiW, put, gdName, gdSub, gdTup, gdCons, gdNil, dPar, dPar3, dRaise, EndsR, dLc, dLcM, iSeq, iTupD, iLst, iZipD, iEnumD, iRg1, iRg2, iStrD, wipeR, wipeR.unput, dFor, lenW, sqW, lsW, allW, anyW, sumW, tupCW, lstCW, lstCMW, absW, intCW, strCW, eqW, neW, isNonW, notNonW, nonB, addW, addMW, mulLW, inW, cutW, dRev, dAppC, dPop, dLRg1, dLRg2, dSplitC, dJoinC, dIsi2, tyN, isi, Option.isSome_some, Option.isSome_none, deref_int, deref_bl, deref_str, deref_non, deref_tup, deref_lst, ok_int, ok_bl, ok_non, peq_int, Bool.not_true, Bool.not_false, decide_eq_true_eq, true_or, or_true, false_or, or_false, false_and, and_false, not_true_eq_false, not_false_eq_true, Bool.not_eq_true', decide_eq_false_iff_not, ex_ins, dFld, dFldS, dMeth, dMeth0, dMake, dProp, dAugO, boolOW, intSW, MO.ins.injEq, bd_frame, bd_every, bd_lots, bd_now, bd_past, bd_put_now, bd_put_past, bd_no_renew, bd_no_undo, bd_length, ini1, ini2, ini3, ini4, ini5, ini_e2, ini_e3, ini_l3, ini_n1, ini_n2, ini_n3, ini_n4, sp_goes_on, hd, ecs]
            refine ⟨log_small (by omega), every, lots, z, cs d, rfl, lo, ep, by omega, hzo, sOk_cs (by omega), ?_⟩
            cases q : goesOn every z (cs d) with
            | true =>
              simp (decide := true) only [startR, exists_and_left, at0, at1, at2, ix30, ix31, ix32, List.set_cons_zero, List.set_cons_succ, Option.some.injEq, MO.lst.injEq, P.int.injEq, P.tup.injEq, P.lst.injEq, exists_eq_left, exists_eq_left', exists_eq, updM_same, updM_updM, reduceCtorEq, List.length_map, List.map_cons, List.map_nil, List.length_cons, List.length_nil, Nat.reduceAdd, Nat.reduceSub, List.replicate_zero, List.replicate_succ, List.cons_append, List.nil_append, List.append_nil, List.append_assoc, Nat.sub_self, true_and, and_true, if_true, Bool.false_eq_true, if_false, dSeq, dNext, dIfS, dRet, dRetN, dAsg, dDrop, dVar, lk, dC, dCons, dNil, dTup, dLst, dLstM, dFz, dBin, dTest, asB, dChain, dTru, truW, dAnd, dOr, dNot, dAndV, dOrV, dNotV, dNeg, dIf, idxW, dNo, dSo, dCut, dCB, dCall, dCall0, int0, intW, isiW, put, gdName, gdSub, gdTup, gdCons, gdNil, dPar, dPar3, dRaise, EndsR, dLc, dLcM, iSeq, iTupD, iLst, iZipD, iEnumD, iRg1, iRg2, iStrD, wipeR, wipeR.unput, dFor, lenW, sqW, lsW, allW, anyW, sumW, tupCW, lstCW, lstCMW, absW, intCW, strCW, eqW, neW, isNonW, notNonW, nonB, addW, addMW, mulLW, inW, cutW, dRev, dAppC, dPop, dLRg1, dLRg2, dSplitC, dJoinC, dIsi2, tyN, isi, Option.isSome_some, Option.isSome_none, deref_int, deref_bl, deref_str, deref_non, deref_tup, deref_lst, ok_int, ok_bl, ok_non, peq_int, Bool.not_true, Bool.not_false, decide_eq_true_eq, true_or, or_true, false_or, or_false, false_and, and_false, not_true_eq_false, not_false_eq_true, Bool.not_eq_true', decide_eq_false_iff_not, ex_ins, dFld, dFldS, dMeth, dMeth0, dMake, dProp, dAugO, boolOW, intSW, MO.ins.injEq, bd_frame, bd_every, bd_lots, bd_now, bd_past, bd_put_now, bd_put_past, bd_no_renew, bd_no_undo, bd_length, ini1, ini2, ini3, ini4, ini5, ini_e2, ini_e3, ini_l3, ini_n1, ini_n2, ini_n3, ini_n4, hd, ecs]
              exact ⟨log_small (by omega), line_of (by omega), hk q⟩
            | false =>
              simp (decide := true) only [startR, exists_and_left, at0, at1, at2, ix30, ix31, ix32, List.set_cons_zero, List.set_cons_succ, Option.some.injEq, MO.lst.injEq, P.int.injEq, P.tup.injEq, P.lst.injEq, exists_eq_left, exists_eq_left', exists_eq, updM_same, updM_updM, reduceCtorEq, List.length_map, List.map_cons, List.map_nil, List.length_cons, List.length_nil, Nat.reduceAdd, Nat.reduceSub, List.replicate_zero, List.replicate_succ, List.cons_append, List.nil_append, List.append_nil, List.append_assoc, Nat.sub_self, true_and, and_true, if_true, Bool.false_eq_true, if_false, dSeq, dNext, dIfS, dRet, dRetN, dAsg, dDrop, dVar, lk, dC, dCons, dNil, dTup, dLst, dLstM, dFz, dBin, dTest, asB, dChain, dTru, truW, dAnd, dOr, dNot, dAndV, dOrV, dNotV, dNeg, dIf, idxW, dNo, dSo, dCut, dCB, dCall, dCall0, int0, intW, isiW, put, gdName, gdSub, gdTup, gdCons, gdNil, dPar, dPar3, dRaise, EndsR, dLc, dLcM, iSeq, iTupD, iLst, iZipD, iEnumD, iRg1, iRg2, iStrD, wipeR, wipeR.unput, dFor, lenW, sqW, lsW, allW, anyW, sumW, tupCW, lstCW, lstCMW, absW, intCW, strCW, eqW, neW, isNonW, notNonW, nonB, addW, addMW, mulLW, inW, cutW, dRev, dAppC, dPop, dLRg1, dLRg2, dSplitC, dJoinC, dIsi2, tyN, isi, Option.isSome_some, Option.isSome_none, deref_int, deref_bl, deref_str, deref_non, deref_tup, deref_lst, ok_int, ok_bl, ok_non, peq_int, Bool.not_true, Bool.not_false, decide_eq_true_eq, true_or, or_true, false_or, or_false, false_and, and_false, not_true_eq_false, not_false_eq_true, Bool.not_eq_true', decide_eq_false_iff_not, ex_ins, dFld, dFldS, dMeth, dMeth0, dMake, dProp, dAugO, boolOW, intSW, MO.ins.injEq, bd_frame, bd_every, bd_lots, bd_now, bd_past, bd_put_now, bd_put_past, bd_no_renew, bd_no_undo, bd_length, ini1, ini2, ini3, ini4, ini5, ini_e2, ini_e3, ini_l3, ini_n1, ini_n2, ini_n3, ini_n4]
              exact hk0 q
          · rw [List.nil_append, kids_rev]
            have hkl := kids_few every colours z
            have hpl : pre.length ≤ 9 * z.length := hst pre.length z (by rw [List.getElem?_append_right (Nat.le_refl _), Nat.sub_self]; rfl)
            refine ⟨pre.map P.str, updM_same, by rw [List.length_map, List.length_map, List.length_reverse]; exact line_of (by omega), fun b2 hb2 => ⟨steps many (pre ++ (kids every colours z).reverse), ?_, pre ++ (kids every colours z).reverse, rfl, b2, ?_, ?_, stack_pop hc10 hst, fun y hy => ?_, fun j o hj => ?_, _, _, rfl⟩⟩
            · rw [steps_app, steps_app]
              have := steps_kids (every := every) hc10 lt
              have e : steps many [z] = work (many - z.length) := by unfold steps; simp
              omega
            · rw [updM_same, List.map_append]
            · rcases ahead_pop (every := every) (colours := colours) (line := pre) lt with e | e
              · rw [← e]; exact hah
              · exact absurd hc10 e
            · rcases List.mem_append.mp hy with hy | hy
              · exact hz y (List.mem_append_left _ hy)
              · have hy := List.mem_reverse.mp hy
                exact ⟨by rw [kids_len hc10 hy]; omega, sOk_kids hc10 hzo hy⟩
            · obtain ⟨h1, h2⟩ := hMo j o hj
              have h3 : j ≠ b2 := fun e => by rw [e] at h1 h2; rw [updM_ne h1, h2] at hb2; cases hb2
              exact ⟨h3, by rw [updM_ne h3, updM_ne h1]; exact h2⟩
end
end NC

end
section
set_option Elab.async false
set_option linter.all false
set_option maxRecDepth 100000
set_option maxHeartbeats 4000000
namespace NC
open PySem PySem.Spec PyProof.Rows L2 RZ
section
variable {Pr : Program} {w : World} {K : PySem.W.Frag} {mg : Str → Option Value} {base : Heap}
def sp_need_number (K : PySem.W.Frag) : DSp := fun ds M Φ Ψ => match ds with
  | [v, .int lo, .int hi] => (fitP v = true) ∧ if within v lo hi = true then Φ .non M else Ψ (.ref (He.ga K "InvalidNumber")) [] M
  | _ => False
theorem ok_need_number (T : Top K mg) : Fx Pr w K mg base 2 "need_number" ["value", "low", "high"] (sp_need_number K) := by
  refine fx_of T.d_need_number sc_need_number (fun _ _ _ _ _ _ us hl => match us, hl with | [_, _, _], _ => rfl) (fun f cdv A outer s H E Ψ hr tk => ⟨_, (dss_one (ds_if (dt_not (dt_tru (de_callF (ok_is_within T) (hr.mono (by decide)) rfl tk (da_cons (de_var (pv 0)) (da_cons (de_var (pv 1)) (da_cons (de_var (pv 2)) da_nil)))))) (dss_one (ds_raiseO T.e_InvalidNumber rfl tk rfl)) dss_nil)), ?_⟩)
  intro ds M Φ hn h
  match ds, h with
  | [v, .int lo, .int hi], ⟨f, h⟩ =>
    simp only [startR, exists_and_left, at0, at1, at2, ix30, ix31, ix32, List.set_cons_zero, List.set_cons_succ, Option.some.injEq, MO.lst.injEq, P.int.injEq, P.tup.injEq, P.lst.injEq, exists_eq_left, exists_eq_left', exists_eq, updM_same, updM_updM, reduceCtorEq, List.length_map, List.map_cons, List.map_nil, List.length_cons, List.length_nil, Nat.reduceAdd, Nat.reduceSub, List.replicate_zero, List.replicate_succ, List.cons_append, List.nil_append, List.append_nil, List.append_assoc, Nat.sub_self, true_and, and_true, if_true, Bool.false_eq_true, if_false, dSeq, dNext, dIfS, dRet, dRetN, dAsg, dDrop, dVar, lk, dC, dCons, dNil, dTup, dLst, dLstM, dFz, dBin, dTest, asB, dChain, dTru, truW, dAnd, dOr, dNot, dAndV, dOrV, dNotV, dNeg, dIf, idxW, dNo, dSo, dCut, dCB, dCall, dCall0, int0, intW, isiW, put, gdName, gdSub, gdTup, gdCons, gdNil, dPar, dPar3, dRaise, EndsR, dLc, dLcM, iSeq, iTupD, iLst, iZipD, iEnumD, iRg1, iRg2, iStrD, wipeR, wipeR.unput, dFor, lenW, sqW, lsW, allW, anyW, sumW, tupCW, lstCW, lstCMW, absW, intCW, strCW, eqW, neW, isNonW, notNonW, nonB, addW, addMW, mulLW, inW, cutW, dRev, dAppC, dPop, dLRg1, dLRg2, dSplitC, dJoinC, dIsi2, tyN, isi, Option.isSome_some, Option.isSome_none, deref_int, deref_bl, deref_str, deref_non, deref_tup, deref_lst, ok_int, ok_bl, ok_non, peq_int, Bool.not_true, Bool.not_false, decide_eq_true_eq, true_or, or_true, false_or, or_false, false_and, and_false, not_true_eq_false, not_false_eq_true, Bool.not_eq_true', decide_eq_false_iff_not, ex_ins, dFld, dFldS, dMeth, dMeth0, dMake, dProp, dAugO, boolOW, intSW, MO.ins.injEq, bd_frame, bd_every, bd_lots, bd_now, bd_past, bd_put_now, bd_put_past, bd_no_renew, bd_no_undo, bd_length, ini1, ini2, ini3, ini4, ini5, ini_e2, ini_e3, ini_l3, ini_n1, ini_n2, ini_n3, ini_n4]
    refine ⟨f, ?_⟩
    cases q : within v lo hi with
    | true => rw [q] at h; simp only [startR, exists_and_left, at0, at1, at2, ix30, ix31, ix32, List.set_cons_zero, List.set_cons_succ, Option.some.injEq, MO.lst.injEq, P.int.injEq, P.tup.injEq, P.lst.injEq, exists_eq_left, exists_eq_left', exists_eq, updM_same, updM_updM, reduceCtorEq, List.length_map, List.map_cons, List.map_nil, List.length_cons, List.length_nil, Nat.reduceAdd, Nat.reduceSub, List.replicate_zero, List.replicate_succ, List.cons_append, List.nil_append, List.append_nil, List.append_assoc, Nat.sub_self, true_and, and_true, if_true, Bool.false_eq_true, if_false, dSeq, dNext, dIfS, dRet, dRetN, dAsg, dDrop, dVar, lk, dC, dCons, dNil, dTup, dLst, dLstM, dFz, dBin, dTest, asB, dChain, dTru, truW, dAnd, dOr, dNot, dAndV, dOrV, dNotV, dNeg, dIf, idxW, dNo, dSo, dCut, dCB, dCall, dCall0, int0, intW, isiW, put, gdName, gdSub, gdTup, gdCons, gdNil, dPar, dPar3, dRaise, EndsR, dLc, dLcM, iSeq, iTupD, iLst, iZipD, iEnumD, iRg1, iRg2, iStrD, wipeR, wipeR.unput, dFor, lenW, sqW, lsW, allW, anyW, sumW, tupCW, lstCW, lstCMW, absW, intCW, strCW, eqW, neW, isNonW, notNonW, nonB, addW, addMW, mulLW, inW, cutW, dRev, dAppC, dPop, dLRg1, dLRg2, dSplitC, dJoinC, dIsi2, tyN, isi, Option.isSome_some, Option.isSome_none, deref_int, deref_bl, deref_str, deref_non, deref_tup, deref_lst, ok_int, ok_bl, ok_non, peq_int, Bool.not_true, Bool.not_false, decide_eq_true_eq, true_or, or_true, false_or, or_false, false_and, and_false, not_true_eq_false, not_false_eq_true, Bool.not_eq_true', decide_eq_false_iff_not, ex_ins, dFld, dFldS, dMeth, dMeth0, dMake, dProp, dAugO, boolOW, intSW, MO.ins.injEq, bd_frame, bd_every, bd_lots, bd_now, bd_past, bd_put_now, bd_put_past, bd_no_renew, bd_no_undo, bd_length, ini1, ini2, ini3, ini4, ini5, ini_e2, ini_e3, ini_l3, ini_n1, ini_n2, ini_n3, ini_n4]; exact Lt.of h
    | false => rw [q] at h; simp only [startR, exists_and_left, at0, at1, at2, ix30, ix31, ix32, List.set_cons_zero, List.set_cons_succ, Option.some.injEq, MO.lst.injEq, P.int.injEq, P.tup.injEq, P.lst.injEq, exists_eq_left, exists_eq_left', exists_eq, updM_same, updM_updM, reduceCtorEq, List.length_map, List.map_cons, List.map_nil, List.length_cons, List.length_nil, Nat.reduceAdd, Nat.reduceSub, List.replicate_zero, List.replicate_succ, List.cons_append, List.nil_append, List.append_nil, List.append_assoc, Nat.sub_self, true_and, and_true, if_true, Bool.false_eq_true, if_false, dSeq, dNext, dIfS, dRet, dRetN, dAsg, dDrop, dVar, lk, dC, dCons, dNil, dTup, dLst, dLstM, dFz, dBin, dTest, asB, dChain, dTru, truW, dAnd, dOr, dNot, dAndV, dOrV, dNotV, dNeg, dIf, idxW, dNo, dSo, dCut, dCB, dCall, dCall0, int0, intW, isiW, put, gdName, gdSub, gdTup, gdCons, gdNil, dPar, dPar3, dRaise, EndsR, dLc, dLcM, iSeq, iTupD, iLst, iZipD, iEnumD, iRg1, iRg2, iStrD, wipeR, wipeR.unput, dFor, lenW, sqW, lsW, allW, anyW, sumW, tupCW, lstCW, lstCMW, absW, intCW, strCW, eqW, neW, isNonW, notNonW, nonB, addW, addMW, mulLW, inW, cutW, dRev, dAppC, dPop, dLRg1, dLRg2, dSplitC, dJoinC, dIsi2, tyN, isi, Option.isSome_some, Option.isSome_none, deref_int, deref_bl, deref_str, deref_non, deref_tup, deref_lst, ok_int, ok_bl, ok_non, peq_int, Bool.not_true, Bool.not_false, decide_eq_true_eq, true_or, or_true, false_or, or_false, false_and, and_false, not_true_eq_false, not_false_eq_true, Bool.not_eq_true', decide_eq_false_iff_not, ex_ins, dFld, dFldS, dMeth, dMeth0, dMake, dProp, dAugO, boolOW, intSW, MO.ins.injEq, bd_frame, bd_every, bd_lots, bd_now, bd_past, bd_put_now, bd_put_past, bd_no_renew, bd_no_undo, bd_length, ini1, ini2, ini3, ini4, ini5, ini_e2, ini_e3, ini_l3, ini_n1, ini_n2, ini_n3, ini_n4]; exact h
end
end NC

end
section
set_option Elab.async false
set_option linter.all false
set_option maxRecDepth 100000
set_option maxHeartbeats 4000000
namespace NC
open PySem PySem.Spec PyProof.Rows L2 RZ
section
variable {Pr : Program} {w : World} {K : PySem.W.Frag} {mg : Str → Option Value} {base : Heap}
def isBl : P → Bool
  | .bl _ => true
  | _ => false
def sp_need_unlike (K : PySem.W.Frag) : DSp := fun ds M Φ Ψ => match ds with
  | [v] => (fitP v = true) ∧ if isBl v = true then Φ .non M else Ψ (.ref (He.ga K "InvalidWord")) [] M
  | _ => False
theorem ok_need_unlike (T : Top K mg) : Fx Pr w K mg base 1 "need_unlike" ["value"] (sp_need_unlike K) := by
  refine fx_of T.d_need_unlike sc_need_unlike (fun _ _ _ _ _ _ us hl => match us, hl with | [_], _ => rfl) (fun f cdv A outer s H E Ψ hr tk => ⟨_, (dss_one (ds_if (dt_not (dt_tru (de_callB cd_isi rfl T.m_isinstance (by decide +kernel) (da_cons (de_var (pv 0)) (da_cons (de_gty (n := "bool") rfl T.m_bool (by decide +kernel)) da_nil))))) (dss_one (ds_raiseO T.e_InvalidWord rfl tk rfl)) dss_nil)), ?_⟩)
  intro ds M Φ hn h
  match ds, h with
  | [v], ⟨f, h⟩ =>
    cases v <;> first | (cases f; done) | skip
    all_goals simp (decide := true) only [startR, exists_and_left, at0, at1, at2, ix30, ix31, ix32, List.set_cons_zero, List.set_cons_succ, Option.some.injEq, MO.lst.injEq, P.int.injEq, P.tup.injEq, P.lst.injEq, exists_eq_left, exists_eq_left', exists_eq, updM_same, updM_updM, reduceCtorEq, List.length_map, List.map_cons, List.map_nil, List.length_cons, List.length_nil, Nat.reduceAdd, Nat.reduceSub, List.replicate_zero, List.replicate_succ, List.cons_append, List.nil_append, List.append_nil, List.append_assoc, Nat.sub_self, true_and, and_true, if_true, Bool.false_eq_true, if_false, dSeq, dNext, dIfS, dRet, dRetN, dAsg, dDrop, dVar, lk, dC, dCons, dNil, dTup, dLst, dLstM, dFz, dBin, dTest, asB, dChain, dTru, truW, dAnd, dOr, dNot, dAndV, dOrV, dNotV, dNeg, dIf, idxW, dNo, dSo, dCut, dCB, dCall, dCall0, int0, intW, isiW, put, gdName, gdSub, gdTup, gdCons, gdNil, dPar, dPar3, dRaise, EndsR, dLc, dLcM, iSeq, iTupD, iLst, iZipD, iEnumD, iRg1, iRg2, iStrD, wipeR, wipeR.unput, dFor, lenW, sqW, lsW, allW, anyW, sumW, tupCW, lstCW, lstCMW, absW, intCW, strCW, eqW, neW, isNonW, notNonW, nonB, addW, addMW, mulLW, inW, cutW, dRev, dAppC, dPop, dLRg1, dLRg2, dSplitC, dJoinC, dIsi2, tyN, isi, Option.isSome_some, Option.isSome_none, deref_int, deref_bl, deref_str, deref_non, deref_tup, deref_lst, ok_int, ok_bl, ok_non, peq_int, Bool.not_true, Bool.not_false, decide_eq_true_eq, true_or, or_true, false_or, or_false, false_and, and_false, not_true_eq_false, not_false_eq_true, Bool.not_eq_true', decide_eq_false_iff_not, ex_ins, dFld, dFldS, dMeth, dMeth0, dMake, dProp, dAugO, boolOW, intSW, MO.ins.injEq, bd_frame, bd_every, bd_lots, bd_now, bd_past, bd_put_now, bd_put_past, bd_no_renew, bd_no_undo, bd_length, ini1, ini2, ini3, ini4, ini5, ini_e2, ini_e3, ini_l3, ini_n1, ini_n2, ini_n3, ini_n4, isBl] at h ⊢
    all_goals first | exact h | exact Lt.of h
end
end NC

end
section
set_option Elab.async false
set_option linter.all false
set_option maxRecDepth 100000
set_option maxHeartbeats 4000000
namespace NC
open PySem PySem.Spec PyProof.Rows L2 RZ
section
variable {Pr : Program} {w : World} {K : PySem.W.Frag} {mg : Str → Option Value} {base : Heap}
def sp_avoiding (K : PySem.W.Frag) : DSp := fun ds M Φ Ψ => ∃ v c m u, ds = [v, c, m, u] ∧ fitP v = true ∧ fitP c = true ∧ fitP m = true ∧ fitP u = true ∧
  (if isSys v = true then (if within c 1 4 = true then (if within m 0 16 = true then (if isBl u = true then (∃ L, v = sysP L ∧ SysOk L ∧ if 4 < cols L then Ψ (.ref (He.ga K "TooMany")) [(("limit" : Str), P.int 4)] M else
      ∃ (colours n : Nat) (b : Bool), c = .int colours ∧ colours ≤ 4 ∧ m = .int n ∧ n ≤ 16 ∧ u = .bl b ∧ Φ (optS (firstC (ansU L n b) colours n)) M)
    else Ψ (.ref (He.ga K "InvalidWord")) [] M) else Ψ (.ref (He.ga K "InvalidNumber")) [] M) else Ψ (.ref (He.ga K "InvalidNumber")) [] M) else Ψ (.ref (He.ga K "InvalidSystem")) [] M)
theorem ok_avoiding (T : Top K mg) (hP : Pr = PR := by rfl) : Fx Pr w K mg base 5 "avoiding" ["system", "colours", "many", "unlike"] (sp_avoiding K) := by
  subst hP
  refine fx_of T.d_avoiding sc_avoiding (fun _ _ _ _ _ _ us hl => match us, hl with | [_, _, _, _], _ => rfl) (fun f cdv A outer s H E Ψ hr tk => ⟨_, (dss_cons (ds_expr (de_callF (ok_need_system T) (hr.mono (by decide)) rfl tk (da_cons (de_var (pv 0)) da_nil))) (dss_cons (ds_expr (de_callF (ok_need_number T) (hr.mono (by decide)) rfl tk (da_cons (de_var (pv 1)) (da_cons de_int (da_cons (de_gint rfl T.c_MOST_COLOURS) da_nil))))) (dss_cons (ds_expr (de_callF (ok_need_number T) (hr.mono (by decide)) rfl tk (da_cons (de_var (pv 2)) (da_cons de_int (da_cons (de_gint rfl T.c_MOST_SIGNS) da_nil))))) (dss_cons (ds_expr (de_callF (ok_need_unlike T) (hr.mono (by decide)) rfl tk (da_cons (de_var (pv 3)) da_nil))) (dss_cons (ds_expr (de_callF (ok_need_few T) (hr.mono (by decide)) rfl tk (da_cons (de_var (pv 0)) da_nil))) (dss_one (ds_ret (de_callF (ok_first_avoiding T) (hr.mono (by decide)) rfl tk (da_cons (de_callF (ok_lots_by T) (hr.mono (by decide)) rfl tk (da_cons (de_callF (ok_all_answers T) (hr.mono (by decide)) rfl tk (da_cons (de_var (pv 0)) (da_cons (de_var (pv 2)) (da_cons (de_var (pv 3)) da_nil)))) da_nil)) (da_cons (de_var (pv 1)) (da_cons (de_var (pv 2)) da_nil))))))))))), ?_⟩)
  intro ds M Φ hn h
  obtain ⟨v, c, m, u, rfl, f1, f2, f3, f4, h⟩ := h
  simp (decide := true) only [startR, exists_and_left, at0, at1, at2, ix30, ix31, ix32, List.set_cons_zero, List.set_cons_succ, Option.some.injEq, MO.lst.injEq, P.int.injEq, P.tup.injEq, P.lst.injEq, exists_eq_left, exists_eq_left', exists_eq, updM_same, updM_updM, reduceCtorEq, List.length_map, List.map_cons, List.map_nil, List.length_cons, List.length_nil, Nat.reduceAdd, Nat.reduceSub, List.replicate_zero, List.replicate_succ, List.cons_append, List.nil_append, List.append_nil, List.append_assoc, Nat.sub_self, true_and, and_true, if_true, Bool.false_eq_true, if_false, dSeq, dNext, dIfS, dRet, dRetN, dAsg, dDrop, dVar, lk, dC, dCons, dNil, dTup, dLst, dLstM, dFz, dBin, dTest, asB, dChain, dTru, truW, dAnd, dOr, dNot, dAndV, dOrV, dNotV, dNeg, dIf, idxW, dNo, dSo, dCut, dCB, dCall, dCall0, int0, intW, isiW, put, gdName, gdSub, gdTup, gdCons, gdNil, dPar, dPar3, dRaise, EndsR, dLc, dLcM, iSeq, iTupD, iLst, iZipD, iEnumD, iRg1, iRg2, iStrD, wipeR, wipeR.unput, dFor, lenW, sqW, lsW, allW, anyW, sumW, tupCW, lstCW, lstCMW, absW, intCW, strCW, eqW, neW, isNonW, notNonW, nonB, addW, addMW, mulLW, inW, cutW, dRev, dAppC, dPop, dLRg1, dLRg2, dSplitC, dJoinC, dIsi2, tyN, isi, Option.isSome_some, Option.isSome_none, deref_int, deref_bl, deref_str, deref_non, deref_tup, deref_lst, ok_int, ok_bl, ok_non, peq_int, Bool.not_true, Bool.not_false, decide_eq_true_eq, true_or, or_true, false_or, or_false, false_and, and_false, not_true_eq_false, not_false_eq_true, Bool.not_eq_true', decide_eq_false_iff_not, ex_ins, dFld, dFldS, dMeth, dMeth0, dMake, dProp, dAugO, boolOW, intSW, MO.ins.injEq, bd_frame, bd_every, bd_lots, bd_now, bd_past, bd_put_now, bd_put_past, bd_no_renew, bd_no_undo, bd_length, ini1, ini2, ini3, ini4, ini5, ini_e2, ini_e3, ini_l3, ini_n1, ini_n2, ini_n3, ini_n4, sp_need_system, sp_need_number, sp_need_unlike]
  refine ⟨f1, ?_⟩
  split at h
  · rename_i q1
    rw [if_pos q1]
    refine ⟨f2, ?_⟩
    split at h
    · rename_i q2
      rw [if_pos q2]
      refine ⟨f3, ?_⟩
      split at h
      · rename_i q3
        rw [if_pos q3]
        refine ⟨f4, ?_⟩
        split at h
        · rename_i q4
          rw [if_pos q4]
          obtain ⟨L, rfl, so, h⟩ := h
          refine ⟨L, rfl, so, ?_⟩
          split at h
          · rename_i q5
            rw [if_pos q5]; exact h
          · rename_i q5
            rw [if_neg q5]
            obtain ⟨colours, n, b, rfl, c4, rfl, n16, rfl, h⟩ := h
            have ar := ans_rows (b := b) so q5 n16
            refine ⟨L, n, b, rfl, so, by omega, ans_few q5 n16, ansU L n b, rfl, Nat.le_trans ansU_length (ans_few q5 n16), ar, fun lots lo => ?_⟩
            exact ⟨_, lots, colours, n, rfl, lo, fun row hr x hx => ((ar row hr).2.2 x hx).1, c4, n16, Lt.of h⟩
        · rename_i q4
          rw [if_neg q4]; exact h
      · rename_i q3
        rw [if_neg q3]; exact h
    · rename_i q2
      rw [if_neg q2]; exact h
  · rename_i q1
    rw [if_neg q1]; exact h
end
end NC

end
section
set_option Elab.async false
set_option linter.all false
set_option maxRecDepth 100000
set_option maxHeartbeats 4000000
namespace NC
open PySem PySem.Spec PyProof.Rows L2 RZ
section
variable {Pr : Program} {w : World} {K : PySem.W.Frag} {mg : Str → Option Value} {base : Heap}
def sp_count_by : DSp := fun ds M Φ Ψ => ∃ (every : List (List Int)) (lots : List (List (List Int))) (colours many : Nat), ds = [.lst (lots.map lotP), .int colours, .int many] ∧ LotsOk every lots ∧ (∀ row ∈ every, ∀ x ∈ row, 1 ≤ x) ∧ colours ≤ 4 ∧ many ≤ 9 ∧ Φ (.int ((rowsOfC every colours many).length : Nat)) M
theorem kids_P (every : List (List Int)) (colours : Nat) (z : Str) : ((iota 0 colours).filter fun p => match p with | .int j => goesOn every z (toString j : Str) | _ => false).map (fun p => match p with | .int j => P.str (z ++ (toString j : Str)) | q => q) = (kids every colours z).map P.str := by
  unfold iota kids cs
  rw [List.filter_map, List.map_map, List.map_map]
  have e1 : ∀ i : Nat, (0 : Int) + (i : Int) = (i : Int) := fun i => by omega
  simp only [e1, Function.comp_def]
theorem flat_kids (every : List (List Int)) (colours : Nat) : ∀ rows : List Str, ((rows.map P.str).map fun p => match p with | .str z => (kids every colours z).map P.str | _ => []).flatten = (rows.flatMap (kids every colours)).map P.str
  | [] => rfl
  | r :: rs => by rw [List.map_cons, List.map_cons, List.flatten_cons, flat_kids every colours rs, List.flatMap_cons, List.map_append]
theorem ok_count_by (T : Top K mg) : Fx Pr w K mg base 2 "count_by" ["lots", "colours", "many"] sp_count_by := by
  refine fx_of T.d_count_by sc_count_by (fun _ _ _ _ _ _ us hl => match us, hl with | [_, _, _], _ => rfl) (fun f cdv A outer s H E Ψ hr tk => ⟨_, (dss_cons (ds_set (i := 3) (fun ht hh => ps_set sc_count_by.nd rfl (by first | exact Or.inl rfl | exact Or.inr rfl) hh) (de_lst (da_cons de_str da_nil))) (dss_cons (ds_for (passes_of rfl) rfl (di_rg1 rfl T.m_range (da_cons (de_var (pv 2)) da_nil)) (dg_name (pg_name (i := 4) sc_count_by.nd rfl (by first | exact Or.inl rfl | exact Or.inr rfl))) (dss_one (ds_setLc2 (own := [("row", 5), ("colour", 6)]) (vs1 := [6]) (i := 3) rfl sc_count_by.nd rfl rfl (sw_true rfl rfl rfl (by decide +kernel)) (di_seq (de_var (pv 3))) (blkOk_by (sc := defScope s_count_by) (own := [("row", 5), ("colour", 6)]) (N := ["lots", "colours", "many", "rows", "turn", "row", "colour"]) (by decide +kernel)) (by decide) (fun _ _ _ _ _ => (dgc_name (pg_name (i := 5) sc_count_by.nd rfl (by first | exact Or.inl rfl | exact Or.inr rfl)) (by decide))) (fun _ _ _ _ _ => dts_nil) (fun _ _ _ _ _ => (di_rg1 rfl T.m_range (da_cons (de_var (pv 1)) da_nil))) (fun _ _ _ _ _ => (dgc_name (pg_name (i := 6) sc_count_by.nd rfl (by first | exact Or.inl rfl | exact Or.inr rfl)) (by decide))) (fun _ _ _ _ _ => (dts_one (dt_tru (de_callF (ok_goes_on T) (hr.mono (by decide)) rfl takesN (da_cons (de_var (pv 0)) (da_cons (de_var (pv 5)) (da_cons (de_callT cd_str rfl T.m_str (by decide +kernel) (da_cons (de_var (pv 6)) da_nil)) da_nil))))))) (fun _ _ _ _ _ => (de_bin opd_add (de_var (pv 5)) (de_callT cd_str rfl T.m_str (by decide +kernel) (da_cons (de_var (pv 6)) da_nil))))))) (dss_one (ds_ret (de_callB cd_len rfl T.m_len (by decide +kernel) (da_cons (de_var (pv 3)) da_nil)))))), ?_⟩)
  intro ds M Φ hn h
  obtain ⟨every, lots, colours, many, rfl, lo, ep, hc, hm, h⟩ := h
  simp (decide := true) only [startR, exists_and_left, at0, at1, at2, ix30, ix31, ix32, List.set_cons_zero, List.set_cons_succ, Option.some.injEq, MO.lst.injEq, P.int.injEq, P.tup.injEq, P.lst.injEq, exists_eq_left, exists_eq_left', exists_eq, updM_same, updM_updM, reduceCtorEq, List.length_map, List.map_cons, List.map_nil, List.length_cons, List.length_nil, Nat.reduceAdd, Nat.reduceSub, List.replicate_zero, List.replicate_succ, List.cons_append, List.nil_append, List.append_nil, List.append_assoc, Nat.sub_self, true_and, and_true, if_true, Bool.false_eq_true, if_false, dSeq, dNext, dIfS, dRet, dRetN, dAsg, dDrop, dVar, lk, dC, dCons, dNil, dTup, dLst, dLstM, dFz, dBin, dTest, asB, dChain, dTru, truW, dAnd, dOr, dNot, dAndV, dOrV, dNotV, dNeg, dIf, idxW, dNo, dSo, dCut, dCB, dCall, dCall0, int0, intW, isiW, put, gdName, gdSub, gdTup, gdCons, gdNil, dPar, dPar3, dRaise, EndsR, dLc, dLcM, iSeq, iTupD, iLst, iZipD, iEnumD, iRg1, iRg2, iStrD, wipeR, wipeR.unput, dFor, lenW, sqW, lsW, allW, anyW, sumW, tupCW, lstCW, lstCMW, absW, intCW, strCW, eqW, neW, isNonW, notNonW, nonB, addW, addMW, mulLW, inW, cutW, dRev, dAppC, dPop, dLRg1, dLRg2, dSplitC, dJoinC, dIsi2, tyN, isi, Option.isSome_some, Option.isSome_none, deref_int, deref_bl, deref_str, deref_non, deref_tup, deref_lst, ok_int, ok_bl, ok_non, peq_int, Bool.not_true, Bool.not_false, decide_eq_true_eq, true_or, or_true, false_or, or_false, false_and, and_false, not_true_eq_false, not_false_eq_true, Bool.not_eq_true', decide_eq_false_iff_not, ex_ins, dFld, dFldS, dMeth, dMeth0, dMake, dProp, dAugO, boolOW, intSW, MO.ins.injEq, bd_frame, bd_every, bd_lots, bd_now, bd_past, bd_put_now, bd_put_past, bd_no_renew, bd_no_undo, bd_length, ini1, ini2, ini3, ini4, ini5, ini_e2, ini_e3, ini_l3, ini_n1, ini_n2, ini_n3, ini_n4]
  refine ⟨⟨by omega, by omega⟩, ?_⟩
  rw [Int.toNat_natCast]
  refine for_gen (fun xs ρ M' => ∃ (n : Nat) (t4 t5 t6 : Option P), M' = M ∧ n ≤ many ∧ xs = iota (n : Int) (many - n) ∧ ρ = [some (.lst (lots.map lotP)), some (.int colours), some (.int many), some (.lst ((rowsOfC every colours n).map P.str)), t4, t5, t6]) (fun x xs ρ M' nx hI hnx => ?_) (fun ρ M' hI => ?_) _ _ _ ⟨0, _, _, _, rfl, by omega, rfl, rfl⟩
  · obtain ⟨n, t4, t5, t6, rfl, hn, ex, rfl⟩ := hI
    have lt : n < many := by
      rcases Nat.lt_or_ge n many with q | q
      · exact q
      · rw [show many - n = 0 by omega] at ex; cases ex
    rw [show many - n = (many - (n + 1)) + 1 by omega, iota_succ] at ex
    obtain ⟨rfl, rfl⟩ := List.cons.inj ex
    have small : (rowsOfC every colours (n + 1)).length ≤ 262144 := by
      refine Nat.le_trans (rows_few every colours (n + 1)) (Nat.le_trans (Nat.pow_le_pow_left hc _) ?_)
      exact Nat.le_trans (Nat.pow_le_pow_right (by decide) (show n + 1 ≤ 9 by omega)) (by decide)
    simp (decide := true) only [startR, exists_and_left, at0, at1, at2, ix30, ix31, ix32, List.set_cons_zero, List.set_cons_succ, Option.some.injEq, MO.lst.injEq, P.int.injEq, P.tup.injEq, P.lst.injEq, exists_eq_left, exists_eq_left', exists_eq, updM_same, updM_updM, reduceCtorEq, List.length_map, List.map_cons, List.map_nil, List.length_cons, List.length_nil, Nat.reduceAdd, Nat.reduceSub, List.replicate_zero, List.replicate_succ, List.cons_append, List.nil_append, List.append_nil, List.append_assoc, Nat.sub_self, true_and, and_true, if_true, Bool.false_eq_true, if_false, dSeq, dNext, dIfS, dRet, dRetN, dAsg, dDrop, dVar, lk, dC, dCons, dNil, dTup, dLst, dLstM, dFz, dBin, dTest, asB, dChain, dTru, truW, dAnd, dOr, dNot, dAndV, dOrV, dNotV, dNeg, dIf, idxW, dNo, dSo, dCut, dCB, dCall, dCall0, int0, intW, isiW, put, gdName, gdSub, gdTup, gdCons, gdNil, dPar, dPar3, dRaise, EndsR, dLc, dLcM, iSeq, iTupD, iLst, iZipD, iEnumD, iRg1, iRg2, iStrD, wipeR, wipeR.unput, dFor, lenW, sqW, lsW, allW, anyW, sumW, tupCW, lstCW, lstCMW, absW, intCW, strCW, eqW, neW, isNonW, notNonW, nonB, addW, addMW, mulLW, inW, cutW, dRev, dAppC, dPop, dLRg1, dLRg2, dSplitC, dJoinC, dIsi2, tyN, isi, Option.isSome_some, Option.isSome_none, deref_int, deref_bl, deref_str, deref_non, deref_tup, deref_lst, ok_int, ok_bl, ok_non, peq_int, Bool.not_true, Bool.not_false, decide_eq_true_eq, true_or, or_true, false_or, or_false, false_and, and_false, not_true_eq_false, not_false_eq_true, Bool.not_eq_true', decide_eq_false_iff_not, ex_ins, dFld, dFldS, dMeth, dMeth0, dMake, dProp, dAugO, boolOW, intSW, MO.ins.injEq, bd_frame, bd_every, bd_lots, bd_now, bd_past, bd_put_now, bd_put_past, bd_no_renew, bd_no_undo, bd_length, ini1, ini2, ini3, ini4, ini5, ini_e2, ini_e3, ini_l3, ini_n1, ini_n2, ini_n3, ini_n4, dLc2]
    refine lc2_pure (fun p => match p with | .str z => (kids every colours z).map P.str | _ => []) (fun p hp ac k hz hk => ?_) ?_
    · obtain ⟨z, hz0, rfl⟩ := List.mem_map.mp hp
      have hlen := rows_len (every := every) (show colours ≤ 10 by omega) n z hz0
      have oz := sOk_rows (every := every) (show colours ≤ 10 by omega) n z hz0
      rw [flat_kids, List.length_map, List.length_map] at hz
      have hz2 : ((rowsOfC every colours n).flatMap (kids every colours)).length ≤ 262144 := small
      simp (decide := true) only [startR, exists_and_left, at0, at1, at2, ix30, ix31, ix32, List.set_cons_zero, List.set_cons_succ, Option.some.injEq, MO.lst.injEq, P.int.injEq, P.tup.injEq, P.lst.injEq, exists_eq_left, exists_eq_left', exists_eq, updM_same, updM_updM, reduceCtorEq, List.length_map, List.map_cons, List.map_nil, List.length_cons, List.length_nil, Nat.reduceAdd, Nat.reduceSub, List.replicate_zero, List.replicate_succ, List.cons_append, List.nil_append, List.append_nil, List.append_assoc, Nat.sub_self, true_and, and_true, if_true, Bool.false_eq_true, if_false, dSeq, dNext, dIfS, dRet, dRetN, dAsg, dDrop, dVar, lk, dC, dCons, dNil, dTup, dLst, dLstM, dFz, dBin, dTest, asB, dChain, dTru, truW, dAnd, dOr, dNot, dAndV, dOrV, dNotV, dNeg, dIf, idxW, dNo, dSo, dCut, dCB, dCall, dCall0, int0, intW, isiW, put, gdName, gdSub, gdTup, gdCons, gdNil, dPar, dPar3, dRaise, EndsR, dLc, dLcM, iSeq, iTupD, iLst, iZipD, iEnumD, iRg1, iRg2, iStrD, wipeR, wipeR.unput, dFor, lenW, sqW, lsW, allW, anyW, sumW, tupCW, lstCW, lstCMW, absW, intCW, strCW, eqW, neW, isNonW, notNonW, nonB, addW, addMW, mulLW, inW, cutW, dRev, dAppC, dPop, dLRg1, dLRg2, dSplitC, dJoinC, dIsi2, tyN, isi, Option.isSome_some, Option.isSome_none, deref_int, deref_bl, deref_str, deref_non, deref_tup, deref_lst, ok_int, ok_bl, ok_non, peq_int, Bool.not_true, Bool.not_false, decide_eq_true_eq, true_or, or_true, false_or, or_false, false_and, and_false, not_true_eq_false, not_false_eq_true, Bool.not_eq_true', decide_eq_false_iff_not, ex_ins, dFld, dFldS, dMeth, dMeth0, dMake, dProp, dAugO, boolOW, intSW, MO.ins.injEq, bd_frame, bd_every, bd_lots, bd_now, bd_past, bd_put_now, bd_put_past, bd_no_renew, bd_no_undo, bd_length, ini1, ini2, ini3, ini4, ini5, ini_e2, ini_e3, ini_l3, ini_n1, ini_n2, ini_n3, ini_n4]
      rw [Int.toNat_natCast]
      refine ⟨⟨by omega, by omega⟩, lcB_pure (fun p => match p with | .int j => goesOn every z (toString j : Str) | _ => false) (fun p => match p with | .int j => .str (z ++ (toString j : Str)) | q => q) ?_ (fun p hp k k0 hk hk0 => ?_) ?_⟩
      · rw [iota_length]
        rw [List.length_nil, Nat.zero_add] at hz
        exact line_of (by omega)
      · rw [iota_ints] at hp
        obtain ⟨j, hj, rfl⟩ := List.mem_map.mp hp
        simp (decide := true) only [startR, exists_and_left, at0, at1, at2, ix30, ix31, ix32, List.set_cons_zero, List.set_cons_succ, Option.some.injEq, MO.lst.injEq, P.int.injEq, P.tup.injEq, P.lst.injEq, exists_eq_left, exists_eq_left', exists_eq, updM_same, updM_updM, reduceCtorEq, List.length_map, List.map_cons, List.map_nil, List.length_cons, List.length_nil, Nat.reduceAdd, Nat.reduceSub, List.replicate_zero, List.replicate_succ, List.cons_append, List.nil_append, List.append_nil, List.append_assoc, Nat.sub_self, true_and, and_true, if_true, Bool.false_eq_true, if_false, dSeq, dNext, dIfS, dRet, dRetN, dAsg, dDrop, dVar, lk, dC, dCons, dNil, dTup, dLst, dLstM, dFz, dBin, dTest, asB, dChain, dTru, truW, dAnd, dOr, dNot, dAndV, dOrV, dNotV, dNeg, dIf, idxW, dNo, dSo, dCut, dCB, dCall, dCall0, int0, intW, isiW, put, gdName, gdSub, gdTup, gdCons, gdNil, dPar, dPar3, dRaise, EndsR, dLc, dLcM, iSeq, iTupD, iLst, iZipD, iEnumD, iRg1, iRg2, iStrD, wipeR, wipeR.unput, dFor, lenW, sqW, lsW, allW, anyW, sumW, tupCW, lstCW, lstCMW, absW, intCW, strCW, eqW, neW, isNonW, notNonW, nonB, addW, addMW, mulLW, inW, cutW, dRev, dAppC, dPop, dLRg1, dLRg2, dSplitC, dJoinC, dIsi2, tyN, isi, Option.isSome_some, Option.isSome_none, deref_int, deref_bl, deref_str, deref_non, deref_tup, deref_lst, ok_int, ok_bl, ok_non, peq_int, Bool.not_true, Bool.not_false, decide_eq_true_eq, true_or, or_true, false_or, or_false, false_and, and_false, not_true_eq_false, not_false_eq_true, Bool.not_eq_true', decide_eq_false_iff_not, ex_ins, dFld, dFldS, dMeth, dMeth0, dMake, dProp, dAugO, boolOW, intSW, MO.ins.injEq, bd_frame, bd_every, bd_lots, bd_now, bd_past, bd_put_now, bd_put_past, bd_no_renew, bd_no_undo, bd_length, ini1, ini2, ini3, ini4, ini5, ini_e2, ini_e3, ini_l3, ini_n1, ini_n2, ini_n3, ini_n4, sp_goes_on]
        obtain ⟨i, hi, rfl⟩ := List.mem_map.mp hj
        have hi := List.mem_range.mp hi
        refine ⟨log_small (by omega), every, lots, z, _, rfl, lo, ep, by omega, oz, ?_, ?_⟩
        · rw [show (0 : Int) + (i : Int) = (i : Int) by omega]
          exact sOk_cs (by omega)
        · have hk : goesOn every z (toString (0 + (i : Int)) : Str) = true → k (.str (z ++ (toString (0 + (i : Int)) : Str))) M' := hk
          have hk0 : goesOn every z (toString (0 + (i : Int)) : Str) = false → k0 M' := hk0
          have hl1 : (toString (0 + (i : Int)) : Str).length = 1 := by
            rw [show (0 : Int) + (i : Int) = (i : Int) by omega]
            exact cs_len (by omega)
          cases q : goesOn every z (toString (0 + (i : Int)) : Str) with
          | true =>
            simp (decide := true) only [startR, exists_and_left, at0, at1, at2, ix30, ix31, ix32, List.set_cons_zero, List.set_cons_succ, Option.some.injEq, MO.lst.injEq, P.int.injEq, P.tup.injEq, P.lst.injEq, exists_eq_left, exists_eq_left', exists_eq, updM_same, updM_updM, reduceCtorEq, List.length_map, List.map_cons, List.map_nil, List.length_cons, List.length_nil, Nat.reduceAdd, Nat.reduceSub, List.replicate_zero, List.replicate_succ, List.cons_append, List.nil_append, List.append_nil, List.append_assoc, Nat.sub_self, true_and, and_true, if_true, Bool.false_eq_true, if_false, dSeq, dNext, dIfS, dRet, dRetN, dAsg, dDrop, dVar, lk, dC, dCons, dNil, dTup, dLst, dLstM, dFz, dBin, dTest, asB, dChain, dTru, truW, dAnd, dOr, dNot, dAndV, dOrV, dNotV, dNeg, dIf, idxW, dNo, dSo, dCut, dCB, dCall, dCall0, int0, intW, isiW, put, gdName, gdSub, gdTup, gdCons, gdNil, dPar, dPar3, dRaise, EndsR, dLc, dLcM, iSeq, iTupD, iLst, iZipD, iEnumD, iRg1, iRg2, iStrD, wipeR, wipeR.unput, dFor, lenW, sqW, lsW, allW, anyW, sumW, tupCW, lstCW, lstCMW, absW, intCW, strCW, eqW, neW, isNonW, notNonW, nonB, addW, addMW, mulLW, inW, cutW, dRev, dAppC, dPop, dLRg1, dLRg2, dSplitC, dJoinC, dIsi2, tyN, isi, Option.isSome_some, Option.isSome_none, deref_int, deref_bl, deref_str, deref_non, deref_tup, deref_lst, ok_int, ok_bl, ok_non, peq_int, Bool.not_true, Bool.not_false, decide_eq_true_eq, true_or, or_true, false_or, or_false, false_and, and_false, not_true_eq_false, not_false_eq_true, Bool.not_eq_true', decide_eq_false_iff_not, ex_ins, dFld, dFldS, dMeth, dMeth0, dMake, dProp, dAugO, boolOW, intSW, MO.ins.injEq, bd_frame, bd_every, bd_lots, bd_now, bd_past, bd_put_now, bd_put_past, bd_no_renew, bd_no_undo, bd_length, ini1, ini2, ini3, ini4, ini5, ini_e2, ini_e3, ini_l3, ini_n1, ini_n2, ini_n3, ini_n4]
            exact ⟨log_small (by omega), line_of (by omega), hk q⟩
          | false =>
            simp (decide := true) only [startR, exists_and_left, at0, at1, at2, ix30, ix31, ix32, List.set_cons_zero, List.set_cons_succ, Option.some.injEq, MO.lst.injEq, P.int.injEq, P.tup.injEq, P.lst.injEq, exists_eq_left, exists_eq_left', exists_eq, updM_same, updM_updM, reduceCtorEq, List.length_map, List.map_cons, List.map_nil, List.length_cons, List.length_nil, Nat.reduceAdd, Nat.reduceSub, List.replicate_zero, List.replicate_succ, List.cons_append, List.nil_append, List.append_nil, List.append_assoc, Nat.sub_self, true_and, and_true, if_true, Bool.false_eq_true, if_false, dSeq, dNext, dIfS, dRet, dRetN, dAsg, dDrop, dVar, lk, dC, dCons, dNil, dTup, dLst, dLstM, dFz, dBin, dTest, asB, dChain, dTru, truW, dAnd, dOr, dNot, dAndV, dOrV, dNotV, dNeg, dIf, idxW, dNo, dSo, dCut, dCB, dCall, dCall0, int0, intW, isiW, put, gdName, gdSub, gdTup, gdCons, gdNil, dPar, dPar3, dRaise, EndsR, dLc, dLcM, iSeq, iTupD, iLst, iZipD, iEnumD, iRg1, iRg2, iStrD, wipeR, wipeR.unput, dFor, lenW, sqW, lsW, allW, anyW, sumW, tupCW, lstCW, lstCMW, absW, intCW, strCW, eqW, neW, isNonW, notNonW, nonB, addW, addMW, mulLW, inW, cutW, dRev, dAppC, dPop, dLRg1, dLRg2, dSplitC, dJoinC, dIsi2, tyN, isi, Option.isSome_some, Option.isSome_none, deref_int, deref_bl, deref_str, deref_non, deref_tup, deref_lst, ok_int, ok_bl, ok_non, peq_int, Bool.not_true, Bool.not_false, decide_eq_true_eq, true_or, or_true, false_or, or_false, false_and, and_false, not_true_eq_false, not_false_eq_true, Bool.not_eq_true', decide_eq_false_iff_not, ex_ins, dFld, dFldS, dMeth, dMeth0, dMake, dProp, dAugO, boolOW, intSW, MO.ins.injEq, bd_frame, bd_every, bd_lots, bd_now, bd_past, bd_put_now, bd_put_past, bd_no_renew, bd_no_undo, bd_length, ini1, ini2, ini3, ini4, ini5, ini_e2, ini_e3, ini_l3, ini_n1, ini_n2, ini_n3, ini_n4]
            exact hk0 q
      · rw [kids_P]
        exact hk
    · rw [List.nil_append, flat_kids]
      exact hnx _ _ ⟨n + 1, _, _, _, rfl, lt, rfl, rfl⟩
  · obtain ⟨n, t4, t5, t6, rfl, hn, ex, rfl⟩ := hI
    have hc : n = many := by
      rcases Nat.lt_or_ge n many with q | q
      · rw [show many - n = (many - (n + 1)) + 1 by omega, iota_succ] at ex; cases ex
      · omega
    subst hc
    simp (decide := true) only [startR, exists_and_left, at0, at1, at2, ix30, ix31, ix32, List.set_cons_zero, List.set_cons_succ, Option.some.injEq, MO.lst.injEq, P.int.injEq, P.tup.injEq, P.lst.injEq, exists_eq_left, exists_eq_left', exists_eq, updM_same, updM_updM, reduceCtorEq, List.length_map, List.map_cons, List.map_nil, List.length_cons, List.length_nil, Nat.reduceAdd, Nat.reduceSub, List.replicate_zero, List.replicate_succ, List.cons_append, List.nil_append, List.append_nil, List.append_assoc, Nat.sub_self, true_and, and_true, if_true, Bool.false_eq_true, if_false, dSeq, dNext, dIfS, dRet, dRetN, dAsg, dDrop, dVar, lk, dC, dCons, dNil, dTup, dLst, dLstM, dFz, dBin, dTest, asB, dChain, dTru, truW, dAnd, dOr, dNot, dAndV, dOrV, dNotV, dNeg, dIf, idxW, dNo, dSo, dCut, dCB, dCall, dCall0, int0, intW, isiW, put, gdName, gdSub, gdTup, gdCons, gdNil, dPar, dPar3, dRaise, EndsR, dLc, dLcM, iSeq, iTupD, iLst, iZipD, iEnumD, iRg1, iRg2, iStrD, wipeR, wipeR.unput, dFor, lenW, sqW, lsW, allW, anyW, sumW, tupCW, lstCW, lstCMW, absW, intCW, strCW, eqW, neW, isNonW, notNonW, nonB, addW, addMW, mulLW, inW, cutW, dRev, dAppC, dPop, dLRg1, dLRg2, dSplitC, dJoinC, dIsi2, tyN, isi, Option.isSome_some, Option.isSome_none, deref_int, deref_bl, deref_str, deref_non, deref_tup, deref_lst, ok_int, ok_bl, ok_non, peq_int, Bool.not_true, Bool.not_false, decide_eq_true_eq, true_or, or_true, false_or, or_false, false_and, and_false, not_true_eq_false, not_false_eq_true, Bool.not_eq_true', decide_eq_false_iff_not, ex_ins, dFld, dFldS, dMeth, dMeth0, dMake, dProp, dAugO, boolOW, intSW, MO.ins.injEq, bd_frame, bd_every, bd_lots, bd_now, bd_past, bd_put_now, bd_put_past, bd_no_renew, bd_no_undo, bd_length, ini1, ini2, ini3, ini4, ini5, ini_e2, ini_e3, ini_l3, ini_n1, ini_n2, ini_n3, ini_n4]
    exact Lt.of h
end
end NC

end
section
set_option Elab.async false
set_option linter.all false
set_option maxRecDepth 100000
set_option maxHeartbeats 4000000
namespace NC
open PySem PySem.Spec PyProof.Rows L2 RZ
section
variable {Pr : Program} {w : World} {K : PySem.W.Frag} {mg : Str → Option Value} {base : Heap}
def sp_count_avoiding (K : PySem.W.Frag) : DSp := fun ds M Φ Ψ => ∃ v c m u, ds = [v, c, m, u] ∧ fitP v = true ∧ fitP c = true ∧ fitP m = true ∧ fitP u = true ∧
  (if isSys v = true then (if within c 1 4 = true then (if within m 0 9 = true then (if isBl u = true then (∃ L, v = sysP L ∧ SysOk L ∧ if 4 < cols L then Ψ (.ref (He.ga K "TooMany")) [(("limit" : Str), P.int 4)] M else
      ∃ (colours n : Nat) (b : Bool), c = .int colours ∧ colours ≤ 4 ∧ m = .int n ∧ n ≤ 9 ∧ u = .bl b ∧ Φ (.int ((rowsOfC (ansU L n b) colours n).length : Nat)) M)
    else Ψ (.ref (He.ga K "InvalidWord")) [] M) else Ψ (.ref (He.ga K "InvalidNumber")) [] M) else Ψ (.ref (He.ga K "InvalidNumber")) [] M) else Ψ (.ref (He.ga K "InvalidSystem")) [] M)
theorem ok_count_avoiding (T : Top K mg) (hP : Pr = PR := by rfl) : Fx Pr w K mg base 5 "count_avoiding" ["system", "colours", "many", "unlike"] (sp_count_avoiding K) := by
  subst hP
  refine fx_of T.d_count_avoiding sc_count_avoiding (fun _ _ _ _ _ _ us hl => match us, hl with | [_, _, _, _], _ => rfl) (fun f cdv A outer s H E Ψ hr tk => ⟨_, (dss_cons (ds_expr (de_callF (ok_need_system T) (hr.mono (by decide)) rfl tk (da_cons (de_var (pv 0)) da_nil))) (dss_cons (ds_expr (de_callF (ok_need_number T) (hr.mono (by decide)) rfl tk (da_cons (de_var (pv 1)) (da_cons de_int (da_cons (de_gint rfl T.c_MOST_COLOURS) da_nil))))) (dss_cons (ds_expr (de_callF (ok_need_number T) (hr.mono (by decide)) rfl tk (da_cons (de_var (pv 2)) (da_cons de_int (da_cons (de_gint rfl T.c_MOST_COUNTED) da_nil))))) (dss_cons (ds_expr (de_callF (ok_need_unlike T) (hr.mono (by decide)) rfl tk (da_cons (de_var (pv 3)) da_nil))) (dss_cons (ds_expr (de_callF (ok_need_few T) (hr.mono (by decide)) rfl tk (da_cons (de_var (pv 0)) da_nil))) (dss_one (ds_ret (de_callF (ok_count_by T) (hr.mono (by decide)) rfl tk (da_cons (de_callF (ok_lots_by T) (hr.mono (by decide)) rfl tk (da_cons (de_callF (ok_all_answers T) (hr.mono (by decide)) rfl tk (da_cons (de_var (pv 0)) (da_cons (de_var (pv 2)) (da_cons (de_var (pv 3)) da_nil)))) da_nil)) (da_cons (de_var (pv 1)) (da_cons (de_var (pv 2)) da_nil))))))))))), ?_⟩)
  intro ds M Φ hn h
  obtain ⟨v, c, m, u, rfl, f1, f2, f3, f4, h⟩ := h
  simp (decide := true) only [startR, exists_and_left, at0, at1, at2, ix30, ix31, ix32, List.set_cons_zero, List.set_cons_succ, Option.some.injEq, MO.lst.injEq, P.int.injEq, P.tup.injEq, P.lst.injEq, exists_eq_left, exists_eq_left', exists_eq, updM_same, updM_updM, reduceCtorEq, List.length_map, List.map_cons, List.map_nil, List.length_cons, List.length_nil, Nat.reduceAdd, Nat.reduceSub, List.replicate_zero, List.replicate_succ, List.cons_append, List.nil_append, List.append_nil, List.append_assoc, Nat.sub_self, true_and, and_true, if_true, Bool.false_eq_true, if_false, dSeq, dNext, dIfS, dRet, dRetN, dAsg, dDrop, dVar, lk, dC, dCons, dNil, dTup, dLst, dLstM, dFz, dBin, dTest, asB, dChain, dTru, truW, dAnd, dOr, dNot, dAndV, dOrV, dNotV, dNeg, dIf, idxW, dNo, dSo, dCut, dCB, dCall, dCall0, int0, intW, isiW, put, gdName, gdSub, gdTup, gdCons, gdNil, dPar, dPar3, dRaise, EndsR, dLc, dLcM, iSeq, iTupD, iLst, iZipD, iEnumD, iRg1, iRg2, iStrD, wipeR, wipeR.unput, dFor, lenW, sqW, lsW, allW, anyW, sumW, tupCW, lstCW, lstCMW, absW, intCW, strCW, eqW, neW, isNonW, notNonW, nonB, addW, addMW, mulLW, inW, cutW, dRev, dAppC, dPop, dLRg1, dLRg2, dSplitC, dJoinC, dIsi2, tyN, isi, Option.isSome_some, Option.isSome_none, deref_int, deref_bl, deref_str, deref_non, deref_tup, deref_lst, ok_int, ok_bl, ok_non, peq_int, Bool.not_true, Bool.not_false, decide_eq_true_eq, true_or, or_true, false_or, or_false, false_and, and_false, not_true_eq_false, not_false_eq_true, Bool.not_eq_true', decide_eq_false_iff_not, ex_ins, dFld, dFldS, dMeth, dMeth0, dMake, dProp, dAugO, boolOW, intSW, MO.ins.injEq, bd_frame, bd_every, bd_lots, bd_now, bd_past, bd_put_now, bd_put_past, bd_no_renew, bd_no_undo, bd_length, ini1, ini2, ini3, ini4, ini5, ini_e2, ini_e3, ini_l3, ini_n1, ini_n2, ini_n3, ini_n4, sp_need_system, sp_need_number, sp_need_unlike]
  refine ⟨f1, ?_⟩
  split at h
  · rename_i q1
    rw [if_pos q1]
    refine ⟨f2, ?_⟩
    split at h
    · rename_i q2
      rw [if_pos q2]
      refine ⟨f3, ?_⟩
      split at h
      · rename_i q3
        rw [if_pos q3]
        refine ⟨f4, ?_⟩
        split at h
        · rename_i q4
          rw [if_pos q4]
          obtain ⟨L, rfl, so, h⟩ := h
          refine ⟨L, rfl, so, ?_⟩
          split at h
          · rename_i q5
            rw [if_pos q5]; exact h
          · rename_i q5
            rw [if_neg q5]
            obtain ⟨colours, n, b, rfl, c4, rfl, n9, rfl, h⟩ := h
            have n16 : n ≤ 16 := by omega
            have ar := ans_rows (b := b) so q5 n16
            refine ⟨L, n, b, rfl, so, by omega, ans_few q5 n16, ansU L n b, rfl, Nat.le_trans ansU_length (ans_few q5 n16), ar, fun lots lo => ?_⟩
            exact ⟨_, lots, colours, n, rfl, lo, fun row hr x hx => ((ar row hr).2.2 x hx).1, c4, n9, Lt.of h⟩
        · rename_i q4
          rw [if_neg q4]; exact h
      · rename_i q3
        rw [if_neg q3]; exact h
    · rename_i q2
      rw [if_neg q2]; exact h
  · rename_i q1
    rw [if_neg q1]; exact h
end
end NC

end
section
set_option Elab.async false
set_option linter.all false
set_option maxRecDepth 100000
set_option maxHeartbeats 4000000
namespace NC
open PySem PySem.Spec PyProof.Rows L2 RZ
section
variable {Pr : Program} {w : World} {K : PySem.W.Frag} {mg : Str → Option Value} {base : Heap}
def sp_Board___bool__ (K : PySem.W.Frag) : DSp := fun ds M Φ Ψ => ∃ (b dx : Addr) (L : List (List Int)) (lots : List (List (List Int))) (z : Str) (past : List Str), ds = [.ref b] ∧ M b = some (.ins (He.ga K "Board") dx (bdF L lots z past)) ∧ Φ (.bl (oneCol (ansU L 16 false) z).isNone) M
theorem ok_Board___bool__ (T : Top K mg) : Fm Pr w K mg base 1 (He.ga K "Board") "__bool__" ["self"] (sp_Board___bool__ K) := by
  refine fm_of T.h_Board___bool__ sc_Board___bool__ (fun _ _ _ _ _ _ us hl => match us, hl with | [_], _ => rfl) (fun f cdv A outer s H E Ψ hr tk => ⟨_, (dss_one (ds_ret (de_cmp opd_isN (de_idx (de_fld T.b_Board T.n_Board_now (de_var (pv 0))) de_int) de_non (nomark _)))), ?_⟩)
  intro ds M Φ hn h
  obtain ⟨b, dx, L, lots, z, past, rfl, hM, h⟩ := h
  unfold bdF at hM
  simp (decide := true) only [startR, exists_and_left, at0, at1, at2, ix30, ix31, ix32, List.set_cons_zero, List.set_cons_succ, Option.some.injEq, MO.lst.injEq, P.int.injEq, P.tup.injEq, P.lst.injEq, exists_eq_left, exists_eq_left', exists_eq, updM_same, updM_updM, reduceCtorEq, List.length_map, List.map_cons, List.map_nil, List.length_cons, List.length_nil, Nat.reduceAdd, Nat.reduceSub, List.replicate_zero, List.replicate_succ, List.cons_append, List.nil_append, List.append_nil, List.append_assoc, Nat.sub_self, true_and, and_true, if_true, Bool.false_eq_true, if_false, dSeq, dNext, dIfS, dRet, dRetN, dAsg, dDrop, dVar, lk, dC, dCons, dNil, dTup, dLst, dLstM, dFz, dBin, dTest, asB, dChain, dTru, truW, dAnd, dOr, dNot, dAndV, dOrV, dNotV, dNeg, dIf, idxW, dNo, dSo, dCut, dCB, dCall, dCall0, int0, intW, isiW, put, gdName, gdSub, gdTup, gdCons, gdNil, dPar, dPar3, dRaise, EndsR, dLc, dLcM, iSeq, iTupD, iLst, iZipD, iEnumD, iRg1, iRg2, iStrD, wipeR, wipeR.unput, dFor, lenW, sqW, lsW, allW, anyW, sumW, tupCW, lstCW, lstCMW, absW, intCW, strCW, eqW, neW, isNonW, notNonW, nonB, addW, addMW, mulLW, inW, cutW, dRev, dAppC, dPop, dLRg1, dLRg2, dSplitC, dJoinC, dIsi2, tyN, isi, Option.isSome_some, Option.isSome_none, deref_int, deref_bl, deref_str, deref_non, deref_tup, deref_lst, ok_int, ok_bl, ok_non, peq_int, Bool.not_true, Bool.not_false, decide_eq_true_eq, true_or, or_true, false_or, or_false, false_and, and_false, not_true_eq_false, not_false_eq_true, Bool.not_eq_true', decide_eq_false_iff_not, ex_ins, dFld, dFldS, dMeth, dMeth0, dMake, dProp, dAugO, boolOW, intSW, MO.ins.injEq, bd_frame, bd_every, bd_lots, bd_now, bd_past, bd_put_now, bd_put_past, bd_no_renew, bd_no_undo, bd_length, ini1, ini2, ini3, ini4, ini5, ini_e2, ini_e3, ini_l3, ini_n1, ini_n2, ini_n3, ini_n4, hM, shownP]
  have e : (match optP (oneCol (ansU L 16 false) z) with
      | P.non => true
      | x => false) = (oneCol (ansU L 16 false) z).isNone := by cases oneCol (ansU L 16 false) z <;> rfl
  rw [← e] at h
  exact Lt.of h
end
end NC

end
section
set_option Elab.async false
set_option linter.all false
set_option maxRecDepth 100000
set_option maxHeartbeats 4000000
namespace NC
open PySem PySem.Spec PyProof.Rows L2 RZ
section
variable {Pr : Program} {w : World} {K : PySem.W.Frag} {mg : Str → Option Value} {base : Heap}
def sp_Board_renew (K : PySem.W.Frag) : DSp := fun ds M Φ Ψ => ∃ (b dx : Addr) (L : List (List Int)) (lots : List (List (List Int))) (z y : Str) (past : List Str), ds = [.ref b, .str y] ∧ SysOk L ∧ cols L ≤ 4 ∧ M b = some (.ins (He.ga K "Board") dx (bdF L lots z past)) ∧ LotsOk (ansU L 16 false) lots ∧ past.length < 40 ∧ y.length ≤ 16 ∧ sOk y ∧ Φ .non (updM M b (.ins (He.ga K "Board") dx (bdF L lots y (past ++ [z]))))
theorem ok_Board_renew (T : Top K mg) (hP : Pr = PR := by rfl) : Fm Pr w K mg base 3 (He.ga K "Board") "renew" ["self", "colouring"] (sp_Board_renew K) := by
  subst hP
  refine fm_of T.h_Board_renew sc_Board_renew (fun _ _ _ _ _ _ us hl => match us, hl with | [_, _], _ => rfl) (fun f cdv A outer s H E Ψ hr tk => ⟨_, (dss_cons (ds_if (dt_cmp opd_gt (de_callB cd_len rfl T.m_len (by decide +kernel) (da_cons (de_var (pv 1)) da_nil)) (de_gint rfl T.c_MOST_SIGNS) (nomark _)) (dss_one (ds_raiseM T.t_TooMany.1 tmSt_ok T.g_TooMany (hr.mono (by decide)) rfl tk rfl (de_gint rfl T.c_MOST_SIGNS))) dss_nil) (dss_cons (ds_if (dt_cmp opd_ge (de_callB cd_len rfl T.m_len (by decide +kernel) (da_cons (de_fld T.b_Board T.n_Board_past (de_var (pv 0))) da_nil)) (de_gint rfl T.c_MOST_CALLS) (nomark _)) (dss_one (ds_raiseM T.t_TooMany.1 tmSt_ok T.g_TooMany (hr.mono (by decide)) rfl tk rfl (de_gint rfl T.c_MOST_CALLS))) dss_nil) (dss_cons (ds_fld T.b_Board T.n_Board_past (de_bin opd_add (de_fld T.b_Board T.n_Board_past (de_var (pv 0))) (de_tup (da_cons (de_fld T.b_Board T.n_Board_now (de_var (pv 0))) da_nil))) (de_var (pv 0))) (dss_one (ds_fld T.b_Board T.n_Board_now (de_callF (ok_shown T) (hr.mono (by decide)) rfl tk (da_cons (de_fld T.b_Board T.n_Board_every (de_var (pv 0))) (da_cons (de_fld T.b_Board T.n_Board_lots (de_var (pv 0))) (da_cons (de_var (pv 1)) da_nil)))) (de_var (pv 0))))))), ?_⟩)
  intro ds M Φ hn h
  obtain ⟨b, dx, L, lots, z, y, past, rfl, so, c4, hM, lo, hp, hy, yo, h⟩ := h
  have ro : RowsOk (cols L) (ansU L 16 false) := fun row hr => ⟨(ansU_mem hr).1, fun x hx => ((ansU_mem hr).2 x hx).1⟩
  unfold bdF at hM h
  simp (decide := true) only [startR, exists_and_left, at0, at1, at2, ix30, ix31, ix32, List.set_cons_zero, List.set_cons_succ, Option.some.injEq, MO.lst.injEq, P.int.injEq, P.tup.injEq, P.lst.injEq, exists_eq_left, exists_eq_left', exists_eq, updM_same, updM_updM, reduceCtorEq, List.length_map, List.map_cons, List.map_nil, List.length_cons, List.length_nil, Nat.reduceAdd, Nat.reduceSub, List.replicate_zero, List.replicate_succ, List.cons_append, List.nil_append, List.append_nil, List.append_assoc, Nat.sub_self, true_and, and_true, if_true, Bool.false_eq_true, if_false, dSeq, dNext, dIfS, dRet, dRetN, dAsg, dDrop, dVar, lk, dC, dCons, dNil, dTup, dLst, dLstM, dFz, dBin, dTest, asB, dChain, dTru, truW, dAnd, dOr, dNot, dAndV, dOrV, dNotV, dNeg, dIf, idxW, dNo, dSo, dCut, dCB, dCall, dCall0, int0, intW, isiW, put, gdName, gdSub, gdTup, gdCons, gdNil, dPar, dPar3, dRaise, EndsR, dLc, dLcM, iSeq, iTupD, iLst, iZipD, iEnumD, iRg1, iRg2, iStrD, wipeR, wipeR.unput, dFor, lenW, sqW, lsW, allW, anyW, sumW, tupCW, lstCW, lstCMW, absW, intCW, strCW, eqW, neW, isNonW, notNonW, nonB, addW, addMW, mulLW, inW, cutW, dRev, dAppC, dPop, dLRg1, dLRg2, dSplitC, dJoinC, dIsi2, tyN, isi, Option.isSome_some, Option.isSome_none, deref_int, deref_bl, deref_str, deref_non, deref_tup, deref_lst, ok_int, ok_bl, ok_non, peq_int, Bool.not_true, Bool.not_false, decide_eq_true_eq, true_or, or_true, false_or, or_false, false_and, and_false, not_true_eq_false, not_false_eq_true, Bool.not_eq_true', decide_eq_false_iff_not, ex_ins, dFld, dFldS, dMeth, dMeth0, dMake, dProp, dAugO, boolOW, intSW, MO.ins.injEq, bd_frame, bd_every, bd_lots, bd_now, bd_past, bd_put_now, bd_put_past, bd_no_renew, bd_no_undo, bd_length, ini1, ini2, ini3, ini4, ini5, ini_e2, ini_e3, ini_l3, ini_n1, ini_n2, ini_n3, ini_n4, sp_shown, hM]
  refine ⟨line_of (by omega), ite_n (by omega) ?_⟩
  refine ite_n (by omega) ?_
  refine ⟨line_of (by omega), cols L, ansU L 16 false, lots, y, rfl, so.c1, by omega, ro, lo, hy, yo, ?_⟩
  rw [List.map_append] at h
  exact Lt.of h
end
end NC

end
section
set_option Elab.async false
set_option linter.all false
set_option maxRecDepth 100000
set_option maxHeartbeats 4000000
namespace NC
open PySem PySem.Spec PyProof.Rows L2 RZ
section
variable {Pr : Program} {w : World} {K : PySem.W.Frag} {mg : Str → Option Value} {base : Heap}
def okSign (c : Nat) : Bool := c == 48 || c == 49 || c == 50 || c == 51
def isCol (most : Int) (v : P) : Bool := match v with
  | .str z => decide ((z.length : Int) ≤ most) && z.cps.toList.all okSign
  | _ => false
theorem one_str {c d : Nat} : ((⟨#[c]⟩ : Str) == ⟨#[d]⟩) = (c == d) := by
  by_cases h : c = d
  · subst h; simp
  · rw [beq_eq_false_iff_ne.mpr h, beq_eq_false_iff_ne.mpr]
    intro e
    have := congrArg (fun z : Str => z.cps.toList) e
    simp at this
    exact h this
theorem pin_sign (c : Nat) : pin (.str ⟨#[c]⟩) [.str (Str.ofString "0"), .str (Str.ofString "1"), .str (Str.ofString "2"), .str (Str.ofString "3")] = okSign c := by
  have e (d : Nat) : peq (.str ⟨#[d]⟩) (.str ⟨#[c]⟩) = (c == d) := by
    have : peq (.str ⟨#[d]⟩) (.str ⟨#[c]⟩) = ((⟨#[d]⟩ : Str) == ⟨#[c]⟩) := by
      rw [Bool.eq_iff_iff, beq_iff_eq]
      simp [peq]
    rw [this, one_str, Bool.beq_comm]
  show (peq (.str ⟨#[48]⟩) (.str ⟨#[c]⟩) || (peq (.str ⟨#[49]⟩) (.str ⟨#[c]⟩) || (peq (.str ⟨#[50]⟩) (.str ⟨#[c]⟩) || (peq (.str ⟨#[51]⟩) (.str ⟨#[c]⟩) || false)))) = _
  rw [e, e, e, e, Bool.or_false]
  unfold okSign
  rw [Bool.or_assoc, Bool.or_assoc]
/-- no text of great length -/
def shortP (v : P) : Prop := match v with
  | .str z => z.length ≤ 1000000
  | _ => True
def sp_is_colouring_value : DSp := fun ds M Φ Ψ => match ds with
  | [v, .int most] => (fitP v = true ∧ shortP v) ∧ Φ (.bl (isCol most v)) M
  | _ => False
theorem ok_is_colouring_value (T : Top K mg) : Fx Pr w K mg base 1 "is_colouring_value" ["value", "most"] sp_is_colouring_value := by
  refine fx_of T.d_is_colouring_value sc_is_colouring_value (fun _ _ _ _ _ _ us hl => match us, hl with | [_, _], _ => rfl) (fun f cdv A outer s H E Ψ hr tk => ⟨_, (dss_one (ds_ret (de_and (de_callB cd_isi rfl T.m_isinstance (by decide +kernel) (da_cons (de_var (pv 0)) (da_cons (de_gty (n := "str") rfl T.m_str (by decide +kernel)) da_nil))) (de_and (de_cmp opd_le (de_callB cd_len rfl T.m_len (by decide +kernel) (da_cons (de_var (pv 0)) da_nil)) (de_var (pv 1)) (nomark _)) (de_one (de_callB (cd_all rfl) rfl T.m_all (by decide +kernel) (da_cons (de_lc (own := [("sign", 2)]) rfl sc_is_colouring_value.nd (di_str (de_var (pv 0))) (blkOk_by (sc := defScope s_is_colouring_value) (own := [("sign", 2)]) (N := ["value", "most", "sign"]) (by decide +kernel)) (fun _ _ _ _ _ => (dgc_name (pg_name (i := 2) sc_is_colouring_value.nd rfl (by first | exact Or.inl rfl | exact Or.inr rfl)) (by decide))) (fun _ _ _ _ _ => dts_nil) (fun _ _ _ _ _ => (de_cmp opd_in (de_var (pv 2)) (de_tup (da_cons de_str (da_cons de_str (da_cons de_str (da_cons de_str da_nil))))) (by rfl)))) da_nil))))))), ?_⟩)
  intro ds M Φ hn h
  match ds, h with
  | [v, .int most], ⟨⟨f, hm⟩, h⟩ =>
    have h := Lt.of h
    cases v with
    | str z =>
      have hm : z.length ≤ 1000000 := hm
      have hl : z.length ≤ sizeLine := line_of (by omega)
      simp (decide := true) only [startR, exists_and_left, at0, at1, at2, ix30, ix31, ix32, List.set_cons_zero, List.set_cons_succ, Option.some.injEq, MO.lst.injEq, P.int.injEq, P.tup.injEq, P.lst.injEq, exists_eq_left, exists_eq_left', exists_eq, updM_same, updM_updM, reduceCtorEq, List.length_map, List.map_cons, List.map_nil, List.length_cons, List.length_nil, Nat.reduceAdd, Nat.reduceSub, List.replicate_zero, List.replicate_succ, List.cons_append, List.nil_append, List.append_nil, List.append_assoc, Nat.sub_self, true_and, and_true, if_true, Bool.false_eq_true, if_false, dSeq, dNext, dIfS, dRet, dRetN, dAsg, dDrop, dVar, lk, dC, dCons, dNil, dTup, dLst, dLstM, dFz, dBin, dTest, asB, dChain, dTru, truW, dAnd, dOr, dNot, dAndV, dOrV, dNotV, dNeg, dIf, idxW, dNo, dSo, dCut, dCB, dCall, dCall0, int0, intW, isiW, put, gdName, gdSub, gdTup, gdCons, gdNil, dPar, dPar3, dRaise, EndsR, dLc, dLcM, iSeq, iTupD, iLst, iZipD, iEnumD, iRg1, iRg2, iStrD, wipeR, wipeR.unput, dFor, lenW, sqW, lsW, allW, anyW, sumW, tupCW, lstCW, lstCMW, absW, intCW, strCW, eqW, neW, isNonW, notNonW, nonB, addW, addMW, mulLW, inW, cutW, dRev, dAppC, dPop, dLRg1, dLRg2, dSplitC, dJoinC, dIsi2, tyN, isi, Option.isSome_some, Option.isSome_none, deref_int, deref_bl, deref_str, deref_non, deref_tup, deref_lst, ok_int, ok_bl, ok_non, peq_int, Bool.not_true, Bool.not_false, decide_eq_true_eq, true_or, or_true, false_or, or_false, false_and, and_false, not_true_eq_false, not_false_eq_true, Bool.not_eq_true', decide_eq_false_iff_not, ex_ins, dFld, dFldS, dMeth, dMeth0, dMake, dProp, dAugO, boolOW, intSW, MO.ins.injEq, bd_frame, bd_every, bd_lots, bd_now, bd_past, bd_put_now, bd_put_past, bd_no_renew, bd_no_undo, bd_length, ini1, ini2, ini3, ini4, ini5, ini_e2, ini_e3, ini_l3, ini_n1, ini_n2, ini_n3, ini_n4, hl]
      split
      · rename_i q1
        have e : isCol most (.str z) = z.cps.toList.all okSign := by unfold isCol; simp only [q1, decide_true, Bool.true_and]
        rw [e] at h
        have hz : z.cps.toList.length = z.length := Array.length_toList
        refine ⟨by unfold chars; rw [List.length_map, hz]; exact hl, lc_map (fun p => match p with | .str ⟨#[c]⟩ => .bl (okSign c) | q => q) (fun p hp k hk => ?_) ?_⟩
        · obtain ⟨c, _, rfl⟩ := List.mem_map.mp hp
          simp (decide := true) only [startR, exists_and_left, at0, at1, at2, ix30, ix31, ix32, List.set_cons_zero, List.set_cons_succ, Option.some.injEq, MO.lst.injEq, P.int.injEq, P.tup.injEq, P.lst.injEq, exists_eq_left, exists_eq_left', exists_eq, updM_same, updM_updM, reduceCtorEq, List.length_map, List.map_cons, List.map_nil, List.length_cons, List.length_nil, Nat.reduceAdd, Nat.reduceSub, List.replicate_zero, List.replicate_succ, List.cons_append, List.nil_append, List.append_nil, List.append_assoc, Nat.sub_self, true_and, and_true, if_true, Bool.false_eq_true, if_false, dSeq, dNext, dIfS, dRet, dRetN, dAsg, dDrop, dVar, lk, dC, dCons, dNil, dTup, dLst, dLstM, dFz, dBin, dTest, asB, dChain, dTru, truW, dAnd, dOr, dNot, dAndV, dOrV, dNotV, dNeg, dIf, idxW, dNo, dSo, dCut, dCB, dCall, dCall0, int0, intW, isiW, put, gdName, gdSub, gdTup, gdCons, gdNil, dPar, dPar3, dRaise, EndsR, dLc, dLcM, iSeq, iTupD, iLst, iZipD, iEnumD, iRg1, iRg2, iStrD, wipeR, wipeR.unput, dFor, lenW, sqW, lsW, allW, anyW, sumW, tupCW, lstCW, lstCMW, absW, intCW, strCW, eqW, neW, isNonW, notNonW, nonB, addW, addMW, mulLW, inW, cutW, dRev, dAppC, dPop, dLRg1, dLRg2, dSplitC, dJoinC, dIsi2, tyN, isi, Option.isSome_some, Option.isSome_none, deref_int, deref_bl, deref_str, deref_non, deref_tup, deref_lst, ok_int, ok_bl, ok_non, peq_int, Bool.not_true, Bool.not_false, decide_eq_true_eq, true_or, or_true, false_or, or_false, false_and, and_false, not_true_eq_false, not_false_eq_true, Bool.not_eq_true', decide_eq_false_iff_not, ex_ins, dFld, dFldS, dMeth, dMeth0, dMake, dProp, dAugO, boolOW, intSW, MO.ins.injEq, bd_frame, bd_every, bd_lots, bd_now, bd_past, bd_put_now, bd_put_past, bd_no_renew, bd_no_undo, bd_length, ini1, ini2, ini3, ini4, ini5, ini_e2, ini_e3, ini_l3, ini_n1, ini_n2, ini_n3, ini_n4, flatP]
          rw [pin_sign]
          exact hk
        · refine ⟨z.cps.toList.map okSign, ?_, ?_⟩
          · unfold chars
            rw [List.nil_append, List.map_map, List.map_map]; rfl
          · rw [all_id]; exact h
      · rename_i q1
        have e : isCol most (.str z) = false := by unfold isCol; simp only [q1, decide_false, Bool.false_and]
        rw [e] at h; exact h
    | _ => first | (cases f; done) | (simp (decide := true) only [startR, exists_and_left, at0, at1, at2, ix30, ix31, ix32, List.set_cons_zero, List.set_cons_succ, Option.some.injEq, MO.lst.injEq, P.int.injEq, P.tup.injEq, P.lst.injEq, exists_eq_left, exists_eq_left', exists_eq, updM_same, updM_updM, reduceCtorEq, List.length_map, List.map_cons, List.map_nil, List.length_cons, List.length_nil, Nat.reduceAdd, Nat.reduceSub, List.replicate_zero, List.replicate_succ, List.cons_append, List.nil_append, List.append_nil, List.append_assoc, Nat.sub_self, true_and, and_true, if_true, Bool.false_eq_true, if_false, dSeq, dNext, dIfS, dRet, dRetN, dAsg, dDrop, dVar, lk, dC, dCons, dNil, dTup, dLst, dLstM, dFz, dBin, dTest, asB, dChain, dTru, truW, dAnd, dOr, dNot, dAndV, dOrV, dNotV, dNeg, dIf, idxW, dNo, dSo, dCut, dCB, dCall, dCall0, int0, intW, isiW, put, gdName, gdSub, gdTup, gdCons, gdNil, dPar, dPar3, dRaise, EndsR, dLc, dLcM, iSeq, iTupD, iLst, iZipD, iEnumD, iRg1, iRg2, iStrD, wipeR, wipeR.unput, dFor, lenW, sqW, lsW, allW, anyW, sumW, tupCW, lstCW, lstCMW, absW, intCW, strCW, eqW, neW, isNonW, notNonW, nonB, addW, addMW, mulLW, inW, cutW, dRev, dAppC, dPop, dLRg1, dLRg2, dSplitC, dJoinC, dIsi2, tyN, isi, Option.isSome_some, Option.isSome_none, deref_int, deref_bl, deref_str, deref_non, deref_tup, deref_lst, ok_int, ok_bl, ok_non, peq_int, Bool.not_true, Bool.not_false, decide_eq_true_eq, true_or, or_true, false_or, or_false, false_and, and_false, not_true_eq_false, not_false_eq_true, Bool.not_eq_true', decide_eq_false_iff_not, ex_ins, dFld, dFldS, dMeth, dMeth0, dMake, dProp, dAugO, boolOW, intSW, MO.ins.injEq, bd_frame, bd_every, bd_lots, bd_now, bd_past, bd_put_now, bd_put_past, bd_no_renew, bd_no_undo, bd_length, ini1, ini2, ini3, ini4, ini5, ini_e2, ini_e3, ini_l3, ini_n1, ini_n2, ini_n3, ini_n4]; exact h)
end
end NC

end
section
set_option Elab.async false
set_option linter.all false
set_option maxRecDepth 100000
set_option maxHeartbeats 4000000
namespace NC
open PySem PySem.Spec PyProof.Rows L2 RZ
section
variable {Pr : Program} {w : World} {K : PySem.W.Frag} {mg : Str → Option Value} {base : Heap}
def sp_Board___iadd__ (K : PySem.W.Frag) : DSp := fun ds M Φ Ψ => ∃ (b dx : Addr) (L : List (List Int)) (lots : List (List (List Int))) (z y : Str) (past : List Str), ds = [.ref b, .str y] ∧ SysOk L ∧ cols L ≤ 4 ∧ M b = some (.ins (He.ga K "Board") dx (bdF L lots z past)) ∧ LotsOk (ansU L 16 false) lots ∧ past.length < 40 ∧ isCol 16 (.str y) = true ∧ sOk z ∧ z.length + y.length ≤ 16 ∧ Φ (.ref b) (updM M b (.ins (He.ga K "Board") dx (bdF L lots (z ++ y) (past ++ [z]))))
theorem fit_col {y : Str} (h : isCol 16 (.str y) = true) : fitP (.str y) = true := by
  show sOk y
  rw [sOk_iff]
  unfold isCol at h
  intro c hc
  have := List.all_eq_true.mp (Bool.and_eq_true_iff.mp h).2 c hc
  unfold okSign at this
  simp only [Bool.or_eq_true, beq_iff_eq] at this
  omega
theorem ok_Board___iadd__ (T : Top K mg) (hP : Pr = PR := by rfl) : Fm Pr w K mg base 4 (He.ga K "Board") "__iadd__" ["self", "colouring"] (sp_Board___iadd__ K) := by
  subst hP
  refine fm_of T.h_Board___iadd__ sc_Board___iadd__ (fun _ _ _ _ _ _ us hl => match us, hl with | [_, _], _ => rfl) (fun f cdv A outer s H E Ψ hr tk => ⟨_, (dss_cons (ds_if (dt_not (dt_tru (de_callF (ok_is_colouring_value T) (hr.mono (by decide)) rfl tk (da_cons (de_var (pv 1)) (da_cons (de_gint rfl T.c_MOST_SIGNS) da_nil))))) (dss_one (ds_raiseO T.e_InvalidColouring rfl tk rfl)) dss_nil) (dss_cons (ds_expr (de_meth T.b_Board (ok_Board_renew T) (hr.mono (by decide)) (de_var (pv 0)) (da_cons (de_bin opd_add (de_idx (de_fld T.b_Board T.n_Board_now (de_var (pv 0))) de_int) (de_var (pv 1))) da_nil))) (dss_one (ds_ret (de_var (pv 0)))))), ?_⟩)
  intro ds M Φ hn h
  obtain ⟨b, dx, L, lots, z, y, past, rfl, so, c4, hM, lo, hp, hc, zo, hl, h⟩ := h
  have fy : fitP (.str y) = true := fit_col hc
  have sy : shortP (.str y) := by show y.length ≤ 1000000; omega
  have hM' := hM
  unfold bdF shownP at hM'
  simp (decide := true) only [startR, exists_and_left, at0, at1, at2, ix30, ix31, ix32, List.set_cons_zero, List.set_cons_succ, Option.some.injEq, MO.lst.injEq, P.int.injEq, P.tup.injEq, P.lst.injEq, exists_eq_left, exists_eq_left', exists_eq, updM_same, updM_updM, reduceCtorEq, List.length_map, List.map_cons, List.map_nil, List.length_cons, List.length_nil, Nat.reduceAdd, Nat.reduceSub, List.replicate_zero, List.replicate_succ, List.cons_append, List.nil_append, List.append_nil, List.append_assoc, Nat.sub_self, true_and, and_true, if_true, Bool.false_eq_true, if_false, dSeq, dNext, dIfS, dRet, dRetN, dAsg, dDrop, dVar, lk, dC, dCons, dNil, dTup, dLst, dLstM, dFz, dBin, dTest, asB, dChain, dTru, truW, dAnd, dOr, dNot, dAndV, dOrV, dNotV, dNeg, dIf, idxW, dNo, dSo, dCut, dCB, dCall, dCall0, int0, intW, isiW, put, gdName, gdSub, gdTup, gdCons, gdNil, dPar, dPar3, dRaise, EndsR, dLc, dLcM, iSeq, iTupD, iLst, iZipD, iEnumD, iRg1, iRg2, iStrD, wipeR, wipeR.unput, dFor, lenW, sqW, lsW, allW, anyW, sumW, tupCW, lstCW, lstCMW, absW, intCW, strCW, eqW, neW, isNonW, notNonW, nonB, addW, addMW, mulLW, inW, cutW, dRev, dAppC, dPop, dLRg1, dLRg2, dSplitC, dJoinC, dIsi2, tyN, isi, Option.isSome_some, Option.isSome_none, deref_int, deref_bl, deref_str, deref_non, deref_tup, deref_lst, ok_int, ok_bl, ok_non, peq_int, Bool.not_true, Bool.not_false, decide_eq_true_eq, true_or, or_true, false_or, or_false, false_and, and_false, not_true_eq_false, not_false_eq_true, Bool.not_eq_true', decide_eq_false_iff_not, ex_ins, dFld, dFldS, dMeth, dMeth0, dMake, dProp, dAugO, boolOW, intSW, MO.ins.injEq, bd_frame, bd_every, bd_lots, bd_now, bd_past, bd_put_now, bd_put_past, bd_no_renew, bd_no_undo, bd_length, ini1, ini2, ini3, ini4, ini5, ini_e2, ini_e3, ini_l3, ini_n1, ini_n2, ini_n3, ini_n4, sp_is_colouring_value, hM', hc]
  refine ⟨⟨fy, sy⟩, line_of (by omega), ?_⟩
  refine ⟨b, dx, L, lots, z, z ++ y, past, rfl, so, c4, hM, lo, hp, by rw [app_len]; omega, sOk_app zo fy, ?_⟩
  exact Lt.of h
end
end NC

end
section
set_option Elab.async false
set_option linter.all false
set_option maxRecDepth 100000
set_option maxHeartbeats 4000000
namespace NC
open PySem PySem.Spec PyProof.Rows L2 RZ
section
variable {Pr : Program} {w : World} {K : PySem.W.Frag} {mg : Str → Option Value} {base : Heap}
def sp_Board_clash (K : PySem.W.Frag) : DSp := fun ds M Φ Ψ => ∃ (b dx : Addr) (L : List (List Int)) (lots : List (List (List Int))) (z : Str) (past : List Str), ds = [.ref b] ∧ M b = some (.ins (He.ga K "Board") dx (bdF L lots z past)) ∧ Φ (optP (oneCol (ansU L 16 false) z)) M
theorem ok_Board_clash (T : Top K mg) : Fp Pr w K mg base 1 (He.ga K "Board") "clash" "self" (sp_Board_clash K) := by
  refine fp_of T.p_Board_clash sc_Board_clash (fun _ _ _ _ _ _ us hl => match us, hl with | [_], _ => rfl) (fun f cdv A outer s H E Ψ hr tk => ⟨_, (dss_one (ds_ret (de_idx (de_fld T.b_Board T.n_Board_now (de_var (pv 0))) de_int))), ?_⟩)
  intro ds M Φ hn h
  obtain ⟨b, dx, L, lots, z, past, rfl, hM, h⟩ := h
  unfold bdF at hM
  simp (decide := true) only [startR, exists_and_left, at0, at1, at2, ix30, ix31, ix32, List.set_cons_zero, List.set_cons_succ, Option.some.injEq, MO.lst.injEq, P.int.injEq, P.tup.injEq, P.lst.injEq, exists_eq_left, exists_eq_left', exists_eq, updM_same, updM_updM, reduceCtorEq, List.length_map, List.map_cons, List.map_nil, List.length_cons, List.length_nil, Nat.reduceAdd, Nat.reduceSub, List.replicate_zero, List.replicate_succ, List.cons_append, List.nil_append, List.append_nil, List.append_assoc, Nat.sub_self, true_and, and_true, if_true, Bool.false_eq_true, if_false, dSeq, dNext, dIfS, dRet, dRetN, dAsg, dDrop, dVar, lk, dC, dCons, dNil, dTup, dLst, dLstM, dFz, dBin, dTest, asB, dChain, dTru, truW, dAnd, dOr, dNot, dAndV, dOrV, dNotV, dNeg, dIf, idxW, dNo, dSo, dCut, dCB, dCall, dCall0, int0, intW, isiW, put, gdName, gdSub, gdTup, gdCons, gdNil, dPar, dPar3, dRaise, EndsR, dLc, dLcM, iSeq, iTupD, iLst, iZipD, iEnumD, iRg1, iRg2, iStrD, wipeR, wipeR.unput, dFor, lenW, sqW, lsW, allW, anyW, sumW, tupCW, lstCW, lstCMW, absW, intCW, strCW, eqW, neW, isNonW, notNonW, nonB, addW, addMW, mulLW, inW, cutW, dRev, dAppC, dPop, dLRg1, dLRg2, dSplitC, dJoinC, dIsi2, tyN, isi, Option.isSome_some, Option.isSome_none, deref_int, deref_bl, deref_str, deref_non, deref_tup, deref_lst, ok_int, ok_bl, ok_non, peq_int, Bool.not_true, Bool.not_false, decide_eq_true_eq, true_or, or_true, false_or, or_false, false_and, and_false, not_true_eq_false, not_false_eq_true, Bool.not_eq_true', decide_eq_false_iff_not, ex_ins, dFld, dFldS, dMeth, dMeth0, dMake, dProp, dAugO, boolOW, intSW, MO.ins.injEq, bd_frame, bd_every, bd_lots, bd_now, bd_past, bd_put_now, bd_put_past, bd_no_renew, bd_no_undo, bd_length, ini1, ini2, ini3, ini4, ini5, ini_e2, ini_e3, ini_l3, ini_n1, ini_n2, ini_n3, ini_n4, hM, shownP]
  exact Lt.of h
end
end NC

end
section
set_option Elab.async false
set_option linter.all false
set_option maxRecDepth 100000
set_option maxHeartbeats 4000000
namespace NC
open PySem PySem.Spec PyProof.Rows L2 RZ
section
variable {Pr : Program} {w : World} {K : PySem.W.Frag} {mg : Str → Option Value} {base : Heap}
def sp_Board_free (K : PySem.W.Frag) : DSp := fun ds M Φ Ψ => ∃ (b dx : Addr) (L : List (List Int)) (lots : List (List (List Int))) (z : Str) (past : List Str), ds = [.ref b] ∧ M b = some (.ins (He.ga K "Board") dx (bdF L lots z past)) ∧ Φ (.lst ((freeL (ansU L 16 false) z).map fun i : Nat => P.int (i : Int))) M
theorem ok_Board_free (T : Top K mg) : Fp Pr w K mg base 1 (He.ga K "Board") "free" "self" (sp_Board_free K) := by
  refine fp_of T.p_Board_free sc_Board_free (fun _ _ _ _ _ _ us hl => match us, hl with | [_], _ => rfl) (fun f cdv A outer s H E Ψ hr tk => ⟨_, (dss_one (ds_ret (de_callT cd_list rfl T.m_list (by decide +kernel) (da_cons (de_idx (de_fld T.b_Board T.n_Board_now (de_var (pv 0))) de_int) da_nil)))), ?_⟩)
  intro ds M Φ hn h
  obtain ⟨b, dx, L, lots, z, past, rfl, hM, h⟩ := h
  unfold bdF at hM
  simp (decide := true) only [startR, exists_and_left, at0, at1, at2, ix30, ix31, ix32, List.set_cons_zero, List.set_cons_succ, Option.some.injEq, MO.lst.injEq, P.int.injEq, P.tup.injEq, P.lst.injEq, exists_eq_left, exists_eq_left', exists_eq, updM_same, updM_updM, reduceCtorEq, List.length_map, List.map_cons, List.map_nil, List.length_cons, List.length_nil, Nat.reduceAdd, Nat.reduceSub, List.replicate_zero, List.replicate_succ, List.cons_append, List.nil_append, List.append_nil, List.append_assoc, Nat.sub_self, true_and, and_true, if_true, Bool.false_eq_true, if_false, dSeq, dNext, dIfS, dRet, dRetN, dAsg, dDrop, dVar, lk, dC, dCons, dNil, dTup, dLst, dLstM, dFz, dBin, dTest, asB, dChain, dTru, truW, dAnd, dOr, dNot, dAndV, dOrV, dNotV, dNeg, dIf, idxW, dNo, dSo, dCut, dCB, dCall, dCall0, int0, intW, isiW, put, gdName, gdSub, gdTup, gdCons, gdNil, dPar, dPar3, dRaise, EndsR, dLc, dLcM, iSeq, iTupD, iLst, iZipD, iEnumD, iRg1, iRg2, iStrD, wipeR, wipeR.unput, dFor, lenW, sqW, lsW, allW, anyW, sumW, tupCW, lstCW, lstCMW, absW, intCW, strCW, eqW, neW, isNonW, notNonW, nonB, addW, addMW, mulLW, inW, cutW, dRev, dAppC, dPop, dLRg1, dLRg2, dSplitC, dJoinC, dIsi2, tyN, isi, Option.isSome_some, Option.isSome_none, deref_int, deref_bl, deref_str, deref_non, deref_tup, deref_lst, ok_int, ok_bl, ok_non, peq_int, Bool.not_true, Bool.not_false, decide_eq_true_eq, true_or, or_true, false_or, or_false, false_and, and_false, not_true_eq_false, not_false_eq_true, Bool.not_eq_true', decide_eq_false_iff_not, ex_ins, dFld, dFldS, dMeth, dMeth0, dMake, dProp, dAugO, boolOW, intSW, MO.ins.injEq, bd_frame, bd_every, bd_lots, bd_now, bd_past, bd_put_now, bd_put_past, bd_no_renew, bd_no_undo, bd_length, ini1, ini2, ini3, ini4, ini5, ini_e2, ini_e3, ini_l3, ini_n1, ini_n2, ini_n3, ini_n4, hM, shownP]
  exact Lt.of h
end
end NC

end
section
set_option Elab.async false
set_option linter.all false
set_option maxRecDepth 100000
set_option maxHeartbeats 4000000
namespace NC
open PySem PySem.Spec PyProof.Rows L2 RZ
section
variable {Pr : Program} {w : World} {K : PySem.W.Frag} {mg : Str → Option Value} {base : Heap}
def sp_Board_undo (K : PySem.W.Frag) : DSp := fun ds M Φ Ψ => ∃ (b dx : Addr) (L : List (List Int)) (lots : List (List (List Int))) (z y : Str), ds = [.ref b] ∧ M b = some (.ins (He.ga K "Board") dx (bdF L lots z [y])) ∧ fitP (.str y) = true ∧ Φ .non (updM M b (.ins (He.ga K "Board") dx (bdF L lots y [])))
theorem ok_Board_undo (T : Top K mg) : Fm Pr w K mg base 1 (He.ga K "Board") "undo" ["self"] (sp_Board_undo K) := by
  refine fm_of T.h_Board_undo sc_Board_undo (fun _ _ _ _ _ _ us hl => match us, hl with | [_], _ => rfl) (fun f cdv A outer s H E Ψ hr tk => ⟨_, (dss_cons (ds_if (dt_cmp (opd_eq hr.units) (de_fld T.b_Board T.n_Board_past (de_var (pv 0))) (de_tup da_nil) (nomark _)) (dss_one (ds_raiseO T.e_NothingToUndo rfl tk rfl)) dss_nil) (dss_cons (ds_fld T.b_Board T.n_Board_now (de_idx (de_fld T.b_Board T.n_Board_past (de_var (pv 0))) (de_neg de_int)) (de_var (pv 0))) (dss_one (ds_fld T.b_Board T.n_Board_past (de_cut (de_fld T.b_Board T.n_Board_past (de_var (pv 0))) do_none (do_some (de_neg de_int))) (de_var (pv 0)))))), ?_⟩)
  intro ds M Φ hn h
  obtain ⟨b, dx, L, lots, z, y, rfl, hM, fy, h⟩ := h
  unfold bdF at hM h
  simp (decide := true) only [startR, exists_and_left, at0, at1, at2, ix30, ix31, ix32, List.set_cons_zero, List.set_cons_succ, Option.some.injEq, MO.lst.injEq, P.int.injEq, P.tup.injEq, P.lst.injEq, exists_eq_left, exists_eq_left', exists_eq, updM_same, updM_updM, reduceCtorEq, List.length_map, List.map_cons, List.map_nil, List.length_cons, List.length_nil, Nat.reduceAdd, Nat.reduceSub, List.replicate_zero, List.replicate_succ, List.cons_append, List.nil_append, List.append_nil, List.append_assoc, Nat.sub_self, true_and, and_true, if_true, Bool.false_eq_true, if_false, dSeq, dNext, dIfS, dRet, dRetN, dAsg, dDrop, dVar, lk, dC, dCons, dNil, dTup, dLst, dLstM, dFz, dBin, dTest, asB, dChain, dTru, truW, dAnd, dOr, dNot, dAndV, dOrV, dNotV, dNeg, dIf, idxW, dNo, dSo, dCut, dCB, dCall, dCall0, int0, intW, isiW, put, gdName, gdSub, gdTup, gdCons, gdNil, dPar, dPar3, dRaise, EndsR, dLc, dLcM, iSeq, iTupD, iLst, iZipD, iEnumD, iRg1, iRg2, iStrD, wipeR, wipeR.unput, dFor, lenW, sqW, lsW, allW, anyW, sumW, tupCW, lstCW, lstCMW, absW, intCW, strCW, eqW, neW, isNonW, notNonW, nonB, addW, addMW, mulLW, inW, cutW, dRev, dAppC, dPop, dLRg1, dLRg2, dSplitC, dJoinC, dIsi2, tyN, isi, Option.isSome_some, Option.isSome_none, deref_int, deref_bl, deref_str, deref_non, deref_tup, deref_lst, ok_int, ok_bl, ok_non, peq_int, Bool.not_true, Bool.not_false, decide_eq_true_eq, true_or, or_true, false_or, or_false, false_and, and_false, not_true_eq_false, not_false_eq_true, Bool.not_eq_true', decide_eq_false_iff_not, ex_ins, dFld, dFldS, dMeth, dMeth0, dMake, dProp, dAugO, boolOW, intSW, MO.ins.injEq, bd_frame, bd_every, bd_lots, bd_now, bd_past, bd_put_now, bd_put_past, bd_no_renew, bd_no_undo, bd_length, ini1, ini2, ini3, ini4, ini5, ini_e2, ini_e3, ini_l3, ini_n1, ini_n2, ini_n3, ini_n4, hM]
  have fs : fitP (shownP (ansU L 16 false) y) = true := fit_shown fy
  refine ⟨ok_of (by show (fitP _ && true) = true; rw [fs]; rfl) (by show max (dpP (shownP _ y)) 0 + 1 ≤ 50; have := dp_shown (ansU L 16 false) y; omega), ?_⟩
  refine ite_n (by show ¬ (peq (.tup [_]) (.tup []) = true); simp [peq, peqs]) ?_
  exact ⟨_, rfl, Lt.of h⟩
end
end NC

end
section
set_option Elab.async false
set_option linter.all false
set_option maxRecDepth 100000
set_option maxHeartbeats 4000000
namespace NC
open PySem PySem.Spec PyProof.Rows L2 RZ
section
variable {Pr : Program} {w : World} {K : PySem.W.Frag} {mg : Str → Option Value} {base : Heap}
def sp_l_on_board (K : PySem.W.Frag) : DSp := fun ds M Φ Ψ => ∃ (b dx : Addr) (L : List (List Int)) (lots : List (List (List Int))) (y : Str), ds = [.ref b, .str y] ∧ SysOk L ∧ cols L ≤ 4 ∧ M b = some (.ins (He.ga K "Board") dx (bdF L lots Str.empty [])) ∧ LotsOk (ansU L 16 false) lots ∧ isCol 16 (.str y) = true ∧ y.length ≤ 16 ∧
  ∀ M1, (∀ j o, M j = some o → M1 j = some o) → Φ (.tup [optP (oneCol (ansU L 16 false) y), .bl (oneCol (ansU L 16 false) y).isNone, .lst ((freeL (ansU L 16 false) y).map fun i : Nat => P.int (i : Int))]) M1
theorem empty_app (y : Str) : Str.empty ++ y = y := str_of_cps (by rw [app_cps]; rfl)
theorem ok_l_on_board (T : Top K mg) (hP : Pr = PR := by rfl) : Fx Pr w K mg base 5 "_law_on_board" ["board", "text"] (sp_l_on_board K) := by
  subst hP
  refine fx_of T.d_l_on_board sc_l_on_board (fun _ _ _ _ _ _ us hl => match us, hl with | [_, _], _ => rfl) (fun f cdv A outer s H E Ψ hr tk => ⟨_, (dss_cons (ds_augO T.s_Board (ok_Board___iadd__ T) (hr.mono (by decide)) sc_l_on_board.nd (i := 0) rfl (by first | exact Or.inl rfl | exact Or.inr rfl) (de_var (pv 1))) (dss_cons (ds_set (i := 2) (fun ht hh => ps_set sc_l_on_board.nd rfl (by first | exact Or.inl rfl | exact Or.inr rfl) hh) (de_tup (da_cons (de_prop T.b_Board (ok_Board_clash T) (hr.mono (by decide)) (de_var (pv 0))) (da_cons (de_callT (cd_boolO (ok_Board___bool__ T) (hr.mono (by decide))) rfl T.m_bool (by decide +kernel) (da_cons (de_var (pv 0)) da_nil)) (da_cons (de_prop T.b_Board (ok_Board_free T) (hr.mono (by decide)) (de_var (pv 0))) da_nil))))) (dss_cons (ds_expr (de_meth0 T.b_Board (ok_Board_undo T) (hr.mono (by decide)) (de_var (pv 0)))) (dss_one (ds_ret (de_var (pv 2))))))), ?_⟩)
  intro ds M Φ hn h
  obtain ⟨b, dx, L, lots, y, rfl, so, c4, hM, lo, hc, hy, h⟩ := h
  simp (decide := true) only [startR, exists_and_left, at0, at1, at2, ix30, ix31, ix32, List.set_cons_zero, List.set_cons_succ, Option.some.injEq, MO.lst.injEq, P.int.injEq, P.tup.injEq, P.lst.injEq, exists_eq_left, exists_eq_left', exists_eq, updM_same, updM_updM, reduceCtorEq, List.length_map, List.map_cons, List.map_nil, List.length_cons, List.length_nil, Nat.reduceAdd, Nat.reduceSub, List.replicate_zero, List.replicate_succ, List.cons_append, List.nil_append, List.append_nil, List.append_assoc, Nat.sub_self, true_and, and_true, if_true, Bool.false_eq_true, if_false, dSeq, dNext, dIfS, dRet, dRetN, dAsg, dDrop, dVar, lk, dC, dCons, dNil, dTup, dLst, dLstM, dFz, dBin, dTest, asB, dChain, dTru, truW, dAnd, dOr, dNot, dAndV, dOrV, dNotV, dNeg, dIf, idxW, dNo, dSo, dCut, dCB, dCall, dCall0, int0, intW, isiW, put, gdName, gdSub, gdTup, gdCons, gdNil, dPar, dPar3, dRaise, EndsR, dLc, dLcM, iSeq, iTupD, iLst, iZipD, iEnumD, iRg1, iRg2, iStrD, wipeR, wipeR.unput, dFor, lenW, sqW, lsW, allW, anyW, sumW, tupCW, lstCW, lstCMW, absW, intCW, strCW, eqW, neW, isNonW, notNonW, nonB, addW, addMW, mulLW, inW, cutW, dRev, dAppC, dPop, dLRg1, dLRg2, dSplitC, dJoinC, dIsi2, tyN, isi, Option.isSome_some, Option.isSome_none, deref_int, deref_bl, deref_str, deref_non, deref_tup, deref_lst, ok_int, ok_bl, ok_non, peq_int, Bool.not_true, Bool.not_false, decide_eq_true_eq, true_or, or_true, false_or, or_false, false_and, and_false, not_true_eq_false, not_false_eq_true, Bool.not_eq_true', decide_eq_false_iff_not, ex_ins, dFld, dFldS, dMeth, dMeth0, dMake, dProp, dAugO, boolOW, intSW, MO.ins.injEq, bd_frame, bd_every, bd_lots, bd_now, bd_past, bd_put_now, bd_put_past, bd_no_renew, bd_no_undo, bd_length, ini1, ini2, ini3, ini4, ini5, ini_e2, ini_e3, ini_l3, ini_n1, ini_n2, ini_n3, ini_n4]
  refine ⟨⟨_, _, hM⟩, b, dx, L, lots, Str.empty, y, [], rfl, so, c4, hM, lo, by decide, hc, by decide +kernel, by show 0 + y.length ≤ 16; omega, ?_⟩
  rw [empty_app]
  refine ⟨b, rfl, ⟨_, _, updM_same⟩, ?_⟩
  refine ⟨b, dx, L, lots, y, [Str.empty], rfl, updM_same, ⟨_, _, updM_same⟩, ?_⟩
  refine ⟨b, dx, L, lots, y, [Str.empty], rfl, updM_same, _, rfl, ⟨_, _, updM_same⟩, ?_⟩
  refine ⟨b, dx, L, lots, y, [Str.empty], rfl, updM_same, ⟨_, _, updM_same, bd_no_undo⟩, ?_⟩
  refine ⟨b, dx, L, lots, y, Str.empty, rfl, updM_same, by decide +kernel, ?_⟩
  refine Lt.of (h _ fun j o e => ?_)
  rw [updM_updM]
  by_cases hj : j = b
  · rw [hj, updM_same]; rw [hj] at e; exact hM.symm.trans e
  · rw [updM_ne hj]; exact e
end
end NC

end
section
set_option Elab.async false
set_option linter.all false
set_option maxRecDepth 100000
set_option maxHeartbeats 4000000
namespace NC
open PySem PySem.Spec PyProof.Rows L2 RZ
section
variable {Pr : Program} {w : World} {K : PySem.W.Frag} {mg : Str → Option Value} {base : Heap}
def sp_need_colouring (K : PySem.W.Frag) : DSp := fun ds M Φ Ψ => match ds with
  | [v] => (fitP v = true ∧ shortP v) ∧ if isCol 16 v = true then Φ .non M else Ψ (.ref (He.ga K "InvalidColouring")) [] M
  | _ => False
theorem ok_need_colouring (T : Top K mg) : Fx Pr w K mg base 2 "need_colouring" ["value"] (sp_need_colouring K) := by
  refine fx_of T.d_need_colouring sc_need_colouring (fun _ _ _ _ _ _ us hl => match us, hl with | [_], _ => rfl) (fun f cdv A outer s H E Ψ hr tk => ⟨_, (dss_one (ds_if (dt_not (dt_tru (de_callF (ok_is_colouring_value T) (hr.mono (by decide)) rfl tk (da_cons (de_var (pv 0)) (da_cons (de_gint rfl T.c_MOST_SIGNS) da_nil))))) (dss_one (ds_raiseO T.e_InvalidColouring rfl tk rfl)) dss_nil)), ?_⟩)
  intro ds M Φ hn h
  match ds, h with
  | [v], ⟨f, h⟩ =>
    simp only [startR, exists_and_left, at0, at1, at2, ix30, ix31, ix32, List.set_cons_zero, List.set_cons_succ, Option.some.injEq, MO.lst.injEq, P.int.injEq, P.tup.injEq, P.lst.injEq, exists_eq_left, exists_eq_left', exists_eq, updM_same, updM_updM, reduceCtorEq, List.length_map, List.map_cons, List.map_nil, List.length_cons, List.length_nil, Nat.reduceAdd, Nat.reduceSub, List.replicate_zero, List.replicate_succ, List.cons_append, List.nil_append, List.append_nil, List.append_assoc, Nat.sub_self, true_and, and_true, if_true, Bool.false_eq_true, if_false, dSeq, dNext, dIfS, dRet, dRetN, dAsg, dDrop, dVar, lk, dC, dCons, dNil, dTup, dLst, dLstM, dFz, dBin, dTest, asB, dChain, dTru, truW, dAnd, dOr, dNot, dAndV, dOrV, dNotV, dNeg, dIf, idxW, dNo, dSo, dCut, dCB, dCall, dCall0, int0, intW, isiW, put, gdName, gdSub, gdTup, gdCons, gdNil, dPar, dPar3, dRaise, EndsR, dLc, dLcM, iSeq, iTupD, iLst, iZipD, iEnumD, iRg1, iRg2, iStrD, wipeR, wipeR.unput, dFor, lenW, sqW, lsW, allW, anyW, sumW, tupCW, lstCW, lstCMW, absW, intCW, strCW, eqW, neW, isNonW, notNonW, nonB, addW, addMW, mulLW, inW, cutW, dRev, dAppC, dPop, dLRg1, dLRg2, dSplitC, dJoinC, dIsi2, tyN, isi, Option.isSome_some, Option.isSome_none, deref_int, deref_bl, deref_str, deref_non, deref_tup, deref_lst, ok_int, ok_bl, ok_non, peq_int, Bool.not_true, Bool.not_false, decide_eq_true_eq, true_or, or_true, false_or, or_false, false_and, and_false, not_true_eq_false, not_false_eq_true, Bool.not_eq_true', decide_eq_false_iff_not, ex_ins, dFld, dFldS, dMeth, dMeth0, dMake, dProp, dAugO, boolOW, intSW, MO.ins.injEq, bd_frame, bd_every, bd_lots, bd_now, bd_past, bd_put_now, bd_put_past, bd_no_renew, bd_no_undo, bd_length, ini1, ini2, ini3, ini4, ini5, ini_e2, ini_e3, ini_l3, ini_n1, ini_n2, ini_n3, ini_n4]
    refine ⟨f, ?_⟩
    cases q : isCol 16 v with
    | true => rw [q] at h; simp only [startR, exists_and_left, at0, at1, at2, ix30, ix31, ix32, List.set_cons_zero, List.set_cons_succ, Option.some.injEq, MO.lst.injEq, P.int.injEq, P.tup.injEq, P.lst.injEq, exists_eq_left, exists_eq_left', exists_eq, updM_same, updM_updM, reduceCtorEq, List.length_map, List.map_cons, List.map_nil, List.length_cons, List.length_nil, Nat.reduceAdd, Nat.reduceSub, List.replicate_zero, List.replicate_succ, List.cons_append, List.nil_append, List.append_nil, List.append_assoc, Nat.sub_self, true_and, and_true, if_true, Bool.false_eq_true, if_false, dSeq, dNext, dIfS, dRet, dRetN, dAsg, dDrop, dVar, lk, dC, dCons, dNil, dTup, dLst, dLstM, dFz, dBin, dTest, asB, dChain, dTru, truW, dAnd, dOr, dNot, dAndV, dOrV, dNotV, dNeg, dIf, idxW, dNo, dSo, dCut, dCB, dCall, dCall0, int0, intW, isiW, put, gdName, gdSub, gdTup, gdCons, gdNil, dPar, dPar3, dRaise, EndsR, dLc, dLcM, iSeq, iTupD, iLst, iZipD, iEnumD, iRg1, iRg2, iStrD, wipeR, wipeR.unput, dFor, lenW, sqW, lsW, allW, anyW, sumW, tupCW, lstCW, lstCMW, absW, intCW, strCW, eqW, neW, isNonW, notNonW, nonB, addW, addMW, mulLW, inW, cutW, dRev, dAppC, dPop, dLRg1, dLRg2, dSplitC, dJoinC, dIsi2, tyN, isi, Option.isSome_some, Option.isSome_none, deref_int, deref_bl, deref_str, deref_non, deref_tup, deref_lst, ok_int, ok_bl, ok_non, peq_int, Bool.not_true, Bool.not_false, decide_eq_true_eq, true_or, or_true, false_or, or_false, false_and, and_false, not_true_eq_false, not_false_eq_true, Bool.not_eq_true', decide_eq_false_iff_not, ex_ins, dFld, dFldS, dMeth, dMeth0, dMake, dProp, dAugO, boolOW, intSW, MO.ins.injEq, bd_frame, bd_every, bd_lots, bd_now, bd_past, bd_put_now, bd_put_past, bd_no_renew, bd_no_undo, bd_length, ini1, ini2, ini3, ini4, ini5, ini_e2, ini_e3, ini_l3, ini_n1, ini_n2, ini_n3, ini_n4]; exact Lt.of h
    | false => rw [q] at h; simp only [startR, exists_and_left, at0, at1, at2, ix30, ix31, ix32, List.set_cons_zero, List.set_cons_succ, Option.some.injEq, MO.lst.injEq, P.int.injEq, P.tup.injEq, P.lst.injEq, exists_eq_left, exists_eq_left', exists_eq, updM_same, updM_updM, reduceCtorEq, List.length_map, List.map_cons, List.map_nil, List.length_cons, List.length_nil, Nat.reduceAdd, Nat.reduceSub, List.replicate_zero, List.replicate_succ, List.cons_append, List.nil_append, List.append_nil, List.append_assoc, Nat.sub_self, true_and, and_true, if_true, Bool.false_eq_true, if_false, dSeq, dNext, dIfS, dRet, dRetN, dAsg, dDrop, dVar, lk, dC, dCons, dNil, dTup, dLst, dLstM, dFz, dBin, dTest, asB, dChain, dTru, truW, dAnd, dOr, dNot, dAndV, dOrV, dNotV, dNeg, dIf, idxW, dNo, dSo, dCut, dCB, dCall, dCall0, int0, intW, isiW, put, gdName, gdSub, gdTup, gdCons, gdNil, dPar, dPar3, dRaise, EndsR, dLc, dLcM, iSeq, iTupD, iLst, iZipD, iEnumD, iRg1, iRg2, iStrD, wipeR, wipeR.unput, dFor, lenW, sqW, lsW, allW, anyW, sumW, tupCW, lstCW, lstCMW, absW, intCW, strCW, eqW, neW, isNonW, notNonW, nonB, addW, addMW, mulLW, inW, cutW, dRev, dAppC, dPop, dLRg1, dLRg2, dSplitC, dJoinC, dIsi2, tyN, isi, Option.isSome_some, Option.isSome_none, deref_int, deref_bl, deref_str, deref_non, deref_tup, deref_lst, ok_int, ok_bl, ok_non, peq_int, Bool.not_true, Bool.not_false, decide_eq_true_eq, true_or, or_true, false_or, or_false, false_and, and_false, not_true_eq_false, not_false_eq_true, Bool.not_eq_true', decide_eq_false_iff_not, ex_ins, dFld, dFldS, dMeth, dMeth0, dMake, dProp, dAugO, boolOW, intSW, MO.ins.injEq, bd_frame, bd_every, bd_lots, bd_now, bd_past, bd_put_now, bd_put_past, bd_no_renew, bd_no_undo, bd_length, ini1, ini2, ini3, ini4, ini5, ini_e2, ini_e3, ini_l3, ini_n1, ini_n2, ini_n3, ini_n4]; exact h
end
end NC

end
section
set_option Elab.async false
set_option linter.all false
set_option maxRecDepth 100000
set_option maxHeartbeats 4000000
namespace NC
open PySem PySem.Spec PyProof.Rows L2 RZ
section
variable {Pr : Program} {w : World} {K : PySem.W.Frag} {mg : Str → Option Value} {base : Heap}
def sp_one_colour (K : PySem.W.Frag) : DSp := fun ds M Φ Ψ => ∃ v z u, ds = [v, z, u] ∧ fitP v = true ∧ fitP z = true ∧ shortP z ∧ fitP u = true ∧
  (if isSys v = true then (if isCol 16 z = true then (if isBl u = true then (∃ L, v = sysP L ∧ SysOk L ∧ if 4 < cols L then Ψ (.ref (He.ga K "TooMany")) [(("limit" : Str), P.int 4)] M else ∃ (s : Str) (b : Bool), z = .str s ∧ s.length ^ cols L ≤ 100000 ∧ u = .bl b ∧ Φ (optP (oneCol (ansU L s.length b) s)) M)
    else Ψ (.ref (He.ga K "InvalidWord")) [] M) else Ψ (.ref (He.ga K "InvalidColouring")) [] M) else Ψ (.ref (He.ga K "InvalidSystem")) [] M)
theorem ok_one_colour (T : Top K mg) (hP : Pr = PR := by rfl) : Fx Pr w K mg base 5 "one_colour" ["system", "colouring", "unlike"] (sp_one_colour K) := by
  subst hP
  refine fx_of T.d_one_colour sc_one_colour (fun _ _ _ _ _ _ us hl => match us, hl with | [_, _, _], _ => rfl) (fun f cdv A outer s H E Ψ hr tk => ⟨_, (dss_cons (ds_expr (de_callF (ok_need_system T) (hr.mono (by decide)) rfl tk (da_cons (de_var (pv 0)) da_nil))) (dss_cons (ds_expr (de_callF (ok_need_colouring T) (hr.mono (by decide)) rfl tk (da_cons (de_var (pv 1)) da_nil))) (dss_cons (ds_expr (de_callF (ok_need_unlike T) (hr.mono (by decide)) rfl tk (da_cons (de_var (pv 2)) da_nil))) (dss_cons (ds_expr (de_callF (ok_need_few T) (hr.mono (by decide)) rfl tk (da_cons (de_var (pv 0)) da_nil))) (dss_one (ds_ret (de_callF (ok_in_one_colour T) (hr.mono (by decide)) rfl tk (da_cons (de_callF (ok_all_answers T) (hr.mono (by decide)) rfl tk (da_cons (de_var (pv 0)) (da_cons (de_callB cd_len rfl T.m_len (by decide +kernel) (da_cons (de_var (pv 1)) da_nil)) (da_cons (de_var (pv 2)) da_nil)))) (da_cons (de_var (pv 1)) da_nil))))))))), ?_⟩)
  intro ds M Φ hn h
  obtain ⟨v, z, u, rfl, f1, f2, hz, f3, h⟩ := h
  simp (decide := true) only [startR, exists_and_left, at0, at1, at2, ix30, ix31, ix32, List.set_cons_zero, List.set_cons_succ, Option.some.injEq, MO.lst.injEq, P.int.injEq, P.tup.injEq, P.lst.injEq, exists_eq_left, exists_eq_left', exists_eq, updM_same, updM_updM, reduceCtorEq, List.length_map, List.map_cons, List.map_nil, List.length_cons, List.length_nil, Nat.reduceAdd, Nat.reduceSub, List.replicate_zero, List.replicate_succ, List.cons_append, List.nil_append, List.append_nil, List.append_assoc, Nat.sub_self, true_and, and_true, if_true, Bool.false_eq_true, if_false, dSeq, dNext, dIfS, dRet, dRetN, dAsg, dDrop, dVar, lk, dC, dCons, dNil, dTup, dLst, dLstM, dFz, dBin, dTest, asB, dChain, dTru, truW, dAnd, dOr, dNot, dAndV, dOrV, dNotV, dNeg, dIf, idxW, dNo, dSo, dCut, dCB, dCall, dCall0, int0, intW, isiW, put, gdName, gdSub, gdTup, gdCons, gdNil, dPar, dPar3, dRaise, EndsR, dLc, dLcM, iSeq, iTupD, iLst, iZipD, iEnumD, iRg1, iRg2, iStrD, wipeR, wipeR.unput, dFor, lenW, sqW, lsW, allW, anyW, sumW, tupCW, lstCW, lstCMW, absW, intCW, strCW, eqW, neW, isNonW, notNonW, nonB, addW, addMW, mulLW, inW, cutW, dRev, dAppC, dPop, dLRg1, dLRg2, dSplitC, dJoinC, dIsi2, tyN, isi, Option.isSome_some, Option.isSome_none, deref_int, deref_bl, deref_str, deref_non, deref_tup, deref_lst, ok_int, ok_bl, ok_non, peq_int, Bool.not_true, Bool.not_false, decide_eq_true_eq, true_or, or_true, false_or, or_false, false_and, and_false, not_true_eq_false, not_false_eq_true, Bool.not_eq_true', decide_eq_false_iff_not, ex_ins, dFld, dFldS, dMeth, dMeth0, dMake, dProp, dAugO, boolOW, intSW, MO.ins.injEq, bd_frame, bd_every, bd_lots, bd_now, bd_past, bd_put_now, bd_put_past, bd_no_renew, bd_no_undo, bd_length, ini1, ini2, ini3, ini4, ini5, ini_e2, ini_e3, ini_l3, ini_n1, ini_n2, ini_n3, ini_n4, sp_need_system, sp_need_colouring, sp_need_unlike]
  refine ⟨f1, ?_⟩
  split at h
  · rename_i q1
    rw [if_pos q1]
    refine ⟨⟨f2, hz⟩, ?_⟩
    split at h
    · rename_i q2
      rw [if_pos q2]
      refine ⟨f3, ?_⟩
      split at h
      · rename_i q3
        rw [if_pos q3]
        obtain ⟨L, rfl, so, h⟩ := h
        refine ⟨L, rfl, so, ?_⟩
        split at h
        · rename_i q4
          rw [if_pos q4]; exact h
        · rename_i q4
          rw [if_neg q4]
          obtain ⟨s, b, rfl, hs, rfl, h⟩ := h
          have hs2 : s.length ≤ 1000000 := hz
          have hs16 : s.length ≤ 16 := by
            have := (Bool.and_eq_true_iff.mp (show (decide ((s.length : Int) ≤ 16) && s.cps.toList.all okSign) = true from q2)).1
            have := of_decide_eq_true this
            omega
          have hl : s.length ≤ sizeLine := line_of (by omega)
          simp (decide := true) only [startR, exists_and_left, at0, at1, at2, ix30, ix31, ix32, List.set_cons_zero, List.set_cons_succ, Option.some.injEq, MO.lst.injEq, P.int.injEq, P.tup.injEq, P.lst.injEq, exists_eq_left, exists_eq_left', exists_eq, updM_same, updM_updM, reduceCtorEq, List.length_map, List.map_cons, List.map_nil, List.length_cons, List.length_nil, Nat.reduceAdd, Nat.reduceSub, List.replicate_zero, List.replicate_succ, List.cons_append, List.nil_append, List.append_nil, List.append_assoc, Nat.sub_self, true_and, and_true, if_true, Bool.false_eq_true, if_false, dSeq, dNext, dIfS, dRet, dRetN, dAsg, dDrop, dVar, lk, dC, dCons, dNil, dTup, dLst, dLstM, dFz, dBin, dTest, asB, dChain, dTru, truW, dAnd, dOr, dNot, dAndV, dOrV, dNotV, dNeg, dIf, idxW, dNo, dSo, dCut, dCB, dCall, dCall0, int0, intW, isiW, put, gdName, gdSub, gdTup, gdCons, gdNil, dPar, dPar3, dRaise, EndsR, dLc, dLcM, iSeq, iTupD, iLst, iZipD, iEnumD, iRg1, iRg2, iStrD, wipeR, wipeR.unput, dFor, lenW, sqW, lsW, allW, anyW, sumW, tupCW, lstCW, lstCMW, absW, intCW, strCW, eqW, neW, isNonW, notNonW, nonB, addW, addMW, mulLW, inW, cutW, dRev, dAppC, dPop, dLRg1, dLRg2, dSplitC, dJoinC, dIsi2, tyN, isi, Option.isSome_some, Option.isSome_none, deref_int, deref_bl, deref_str, deref_non, deref_tup, deref_lst, ok_int, ok_bl, ok_non, peq_int, Bool.not_true, Bool.not_false, decide_eq_true_eq, true_or, or_true, false_or, or_false, false_and, and_false, not_true_eq_false, not_false_eq_true, Bool.not_eq_true', decide_eq_false_iff_not, ex_ins, dFld, dFldS, dMeth, dMeth0, dMake, dProp, dAugO, boolOW, intSW, MO.ins.injEq, bd_frame, bd_every, bd_lots, bd_now, bd_past, bd_put_now, bd_put_past, bd_no_renew, bd_no_undo, bd_length, ini1, ini2, ini3, ini4, ini5, ini_e2, ini_e3, ini_l3, ini_n1, ini_n2, ini_n3, ini_n4, hl]
          refine ⟨L, s.length, b, rfl, so, by omega, hs, cols L, _, s, rfl, so.c1, by omega, fun row hr => ?_, by omega, Lt.of h⟩
          obtain ⟨a1, a2⟩ := ansU_mem hr
          exact ⟨a1, fun x hx => (a2 x hx).1⟩
      · rename_i q3
        rw [if_neg q3]; exact h
    · rename_i q2
      rw [if_neg q2]; exact h
  · rename_i q1
    rw [if_neg q1]; exact h
end
end NC

end
section
set_option Elab.async false
set_option linter.all false
set_option maxRecDepth 100000
set_option maxHeartbeats 4000000
namespace NC
open PySem PySem.Spec PyProof.Rows L2 RZ
/-- the first k of what comes of a colouring -/
def kidsTo (every : List (List Int)) (z : Str) (k : Nat) : List Str := ((List.range k).filter fun i => goesOn every z (cs i)).map fun i => z ++ cs i
theorem kidsTo_succ (every : List (List Int)) (z : Str) (k : Nat) : kidsTo every z (k + 1) = kidsTo every z k ++ (if goesOn every z (cs k) = true then [z ++ cs k] else []) := by
  unfold kidsTo
  rw [List.range_succ, List.filter_append, List.map_append]
  split
  · rename_i q
    rw [List.filter_cons_of_pos (p := fun i => goesOn every z (cs i)) q]; rfl
  · rename_i q
    rw [List.filter_cons_of_neg (p := fun i => goesOn every z (cs i)) q]; simp
theorem kidsTo_len (every : List (List Int)) (z : Str) (k : Nat) : (kidsTo every z k).length ≤ k := kids_few every k z
theorem one_to {n : Nat} {e1 e2 : List (List Int)} {y : Str} (h : SameTo n e1 e2) (hy : y.length ≤ n) : (oneCol e1 y).isNone = (oneCol e2 y).isNone := by
  have key : ∀ {a b : List (List Int)}, SameTo n a b → (oneCol a y).isNone = true → (oneCol b y).isNone = true := fun {a b} s q => by
    unfold oneCol at *
    rw [Option.isNone_iff_eq_none, List.find?_eq_none] at *
    intro row hr hm
    refine q row ((s row fun x hx => ?_).mpr hr) hm
    unfold mono at hm
    have := of_decide_eq_true (List.all_eq_true.mp (Bool.and_eq_true_iff.mp hm).1 x hx)
    omega
  rw [Bool.eq_iff_iff]
  exact ⟨key h, key fun row hr => (h row hr).symm⟩
theorem pin_int (k : Int) : ∀ ns : List Int, pin (.int k) (ns.map P.int) = decide (k ∈ ns)
  | [] => rfl
  | n :: ns => by
    show (peq (.int n) (.int k) || pin (.int k) (ns.map P.int)) = _
    rw [pin_int k ns, peq_int, Bool.eq_iff_iff, Bool.or_eq_true, decide_eq_true_eq, decide_eq_true_eq, decide_eq_true_eq, List.mem_cons]
    exact ⟨fun h => h.elim (fun e => .inl e.symm) .inr, fun h => h.elim (fun e => .inl e.symm) .inr⟩
theorem free_in {every : List (List Int)} {z : Str} {k : Nat} (hz : z.length < 16) (hk : k < 4) : decide ((k : Int) ∈ (freeL every z).map fun i : Nat => (i : Int)) = goesOn every z (cs k) := by
  unfold freeL
  rw [if_pos hz, Bool.eq_iff_iff, decide_eq_true_eq, List.mem_map]
  constructor
  · rintro ⟨i, hi, e⟩
    have e : i = k := by omega
    rw [← e]
    exact (List.mem_filter.mp hi).2
  · intro h
    exact ⟨k, List.mem_filter.mpr ⟨List.mem_range.mpr hk, h⟩, rfl⟩
end NC

end
section
set_option Elab.async false
set_option linter.all false
set_option maxRecDepth 100000
set_option maxHeartbeats 4000000
namespace NC
open PySem PySem.Spec PyProof.Rows L2 RZ
section
variable {Pr : Program} {w : World} {K : PySem.W.Frag} {mg : Str → Option Value} {base : Heap}
--IMPORT NcBe
def sp_l_grown_right (K : PySem.W.Frag) : DSp := fun ds M Φ Ψ => ∃ (L : List (List Int)) (colours many : Nat), ds = [sysP L, .int colours, .int many] ∧ SysOk L ∧ cols L ≤ 3 ∧ 1 ≤ colours ∧ colours ≤ 4 ∧ many ≤ 8 ∧ ∀ M1, (∀ j o, M j = some o → M1 j = some o) → Φ (.bl true) M1
theorem within_ok {i lo hi : Int} (h1 : lo ≤ i) (h2 : i ≤ hi) : within (.int i) lo hi = true := by simp [within, h1, h2]
theorem go_avoiding {K : PySem.W.Frag} {M : Mm} {Φ : P → Mm → Prop} {Ψ : XP} {L : List (List Int)} {colours n : Nat} {u : Bool} (so : SysOk L) (c4 : cols L ≤ 4) (k1 : 1 ≤ colours) (k4 : colours ≤ 4) (n16 : n ≤ 16) (h : Φ (optS (firstC (ansU L n u) colours n)) M) : sp_avoiding K [sysP L, .int colours, .int n, .bl u] M Φ Ψ := by
  refine ⟨_, _, _, _, rfl, fit_sysP L, rfl, rfl, rfl, ?_⟩
  rw [if_pos (isSys_sysP so), if_pos (within_ok (by omega) (by omega)), if_pos (within_ok (by omega) (by omega)), if_pos (show isBl (.bl u) = true from rfl)]
  refine ⟨L, rfl, so, ?_⟩
  rw [if_neg (by omega)]
  exact ⟨colours, n, u, rfl, k4, rfl, n16, rfl, h⟩
theorem go_count {K : PySem.W.Frag} {M : Mm} {Φ : P → Mm → Prop} {Ψ : XP} {L : List (List Int)} {colours n : Nat} {u : Bool} (so : SysOk L) (c4 : cols L ≤ 4) (k1 : 1 ≤ colours) (k4 : colours ≤ 4) (n9 : n ≤ 9) (h : Φ (.int ((rowsOfC (ansU L n u) colours n).length : Nat)) M) : sp_count_avoiding K [sysP L, .int colours, .int n, .bl u] M Φ Ψ := by
  refine ⟨_, _, _, _, rfl, fit_sysP L, rfl, rfl, rfl, ?_⟩
  rw [if_pos (isSys_sysP so), if_pos (within_ok (by omega) (by omega)), if_pos (within_ok (by omega) (by omega)), if_pos (show isBl (.bl u) = true from rfl)]
  refine ⟨L, rfl, so, ?_⟩
  rw [if_neg (by omega)]
  exact ⟨colours, n, u, rfl, k4, rfl, n9, rfl, h⟩
theorem go_one {K : PySem.W.Frag} {M : Mm} {Φ : P → Mm → Prop} {Ψ : XP} {L : List (List Int)} {z : Str} {u : Bool} (so : SysOk L) (c3 : cols L ≤ 3) (hc : isCol 16 (.str z) = true) (fz : fitP (.str z) = true) (hz : z.length ≤ 16) (h : Φ (optP (oneCol (ansU L z.length u) z)) M) : sp_one_colour K [sysP L, .str z, .bl u] M Φ Ψ := by
  refine ⟨_, _, _, rfl, fit_sysP L, fz, by show z.length ≤ 1000000; omega, rfl, ?_⟩
  rw [if_pos (isSys_sysP so), if_pos hc, if_pos (show isBl (.bl u) = true from rfl)]
  refine ⟨L, rfl, so, ?_⟩
  rw [if_neg (by omega)]
  exact ⟨z, u, rfl, ans_few (by omega) hz, rfl, h⟩
theorem col_signs {n : Nat} {z : Str} (hs : Signs n z) (hn : n ≤ 4) (hl : z.length ≤ 16) : isCol 16 (.str z) = true := by
  unfold isCol
  simp only [Bool.and_eq_true, decide_eq_true_eq, List.all_eq_true]
  refine ⟨by omega, fun c hc => ?_⟩
  have := hs c hc
  unfold okSign
  simp only [Bool.or_eq_true, beq_iff_eq]
  omega
theorem cut8 {α : Type} (xs : List α) : cutL xs none (some 8) = xs.take 8 := by
  unfold cutL HT.sIx
  simp only [Nat.sub_zero, List.drop_zero]
  by_cases h : xs.length ≤ 8
  · rw [List.take_of_length_le h, List.take_of_length_le]
    simp; omega
  · congr 1
    simp; omega
theorem peq_optS (r : Option Str) : peq (optS r) (optS r) = true := by cases r <;> simp [optS, peq]
theorem ok_optS {every : List (List Int)} {colours n : Nat} (hc : colours ≤ 10) : okP (optS (firstC every colours n)) = true := by
  cases q : firstC every colours n with
  | none => rfl
  | some z =>
    have hs := rows_signs hc n z (first_is q)
    refine ok_of ?_ (Nat.zero_le _)
    show sOk z
    rw [sOk_iff]
    intro c h
    have := hs c h
    omega
theorem ok_l_grown_right (T : Top K mg) (hP : Pr = PR := by rfl) : Fx Pr w K mg base 7 "_law_grown_right" ["system_so", "colours", "many"] (sp_l_grown_right K) := by
  subst hP
  refine fx_of T.d_l_grown_right sc_l_grown_right (fun _ _ _ _ _ _ us hl => match us, hl with | [_, _, _], _ => rfl) (fun f cdv A outer s H E Ψ hr tk => ⟨_, (dss_cons (ds_par (i := 3) (j := 4) (fun ht hh => ps_par rfl sc_l_grown_right.nd rfl rfl (by decide) rfl rfl hh (by rfl)) (da_cons (de_lst (da_cons de_str da_nil)) (da_cons (de_make (ok_Board___init__ T) (hr.mono (by decide)) rfl T.g_Board (da_cons (de_var (pv 0)) da_nil)) da_nil))) (dss_cons (ds_for (passes_of rfl) rfl (di_rg1 rfl T.m_range (da_cons (de_bin opd_add (de_var (pv 2)) de_int) da_nil)) (dg_name (pg_name (i := 5) sc_l_grown_right.nd rfl (by first | exact Or.inl rfl | exact Or.inr rfl))) (dss_cons (ds_if (dt_cmp (opd_ne hr.units) (de_callF (ok_count_avoiding T) (hr.mono (by decide)) rfl tk (da_cons (de_var (pv 0)) (da_cons (de_var (pv 1)) (da_cons (de_var (pv 5)) (da_cons de_bl da_nil))))) (de_callB cd_len rfl T.m_len (by decide +kernel) (da_cons (de_var (pv 3)) da_nil)) (nomark _)) (dss_one (ds_ret de_bl)) dss_nil) (dss_cons (ds_if (dt_cmp (opd_ne hr.units) (de_callF (ok_avoiding T) (hr.mono (by decide)) rfl tk (da_cons (de_var (pv 0)) (da_cons (de_var (pv 1)) (da_cons (de_var (pv 5)) (da_cons de_bl da_nil))))) (de_ifN (dt_cmp (opd_ne hr.units) (de_var (pv 3)) (de_lst da_nil) (nomark _)) (de_idx (de_var (pv 3)) de_int) de_non) (nomark _)) (dss_one (ds_ret de_bl)) dss_nil) (dss_cons (ds_set (i := 6) (fun ht hh => ps_set sc_l_grown_right.nd rfl (by first | exact Or.inl rfl | exact Or.inr rfl) hh) (de_lst da_nil)) (dss_cons (ds_for (passes_of rfl) rfl (di_seq (de_cut (de_var (pv 3)) do_none (do_some de_int))) (dg_name (pg_name (i := 7) sc_l_grown_right.nd rfl (by first | exact Or.inl rfl | exact Or.inr rfl))) (dss_cons (ds_asg (de_callF (ok_l_on_board T) (hr.mono (by decide)) rfl tk (da_cons (de_var (pv 4)) (da_cons (de_var (pv 7)) da_nil))) (dg_tup (n := 3) rfl (dgs_cons (dg_name (pg_name (i := 8) sc_l_grown_right.nd rfl (by first | exact Or.inl rfl | exact Or.inr rfl))) (dgs_cons (dg_name (pg_name (i := 9) sc_l_grown_right.nd rfl (by first | exact Or.inl rfl | exact Or.inr rfl))) (dgs_cons (dg_name (pg_name (i := 10) sc_l_grown_right.nd rfl (by first | exact Or.inl rfl | exact Or.inr rfl))) dgs_nil))))) (dss_cons (ds_if (DW.dt (dw_or (dt_cmp opd_notN (de_var (pv 8)) de_non (nomark _)) (dw_or (dt_not (dt_tru (de_var (pv 9)))) (dw_or1 (dt_cmp opd_notN (de_callF (ok_one_colour T) (hr.mono (by decide)) rfl tk (da_cons (de_var (pv 0)) (da_cons (de_var (pv 7)) (da_cons de_bl da_nil)))) de_non (nomark _)))))) (dss_one (ds_ret de_bl)) dss_nil) (dss_one (ds_for (passes_of rfl) rfl (di_rg1 rfl T.m_range (da_cons (de_var (pv 1)) da_nil)) (dg_name (pg_name (i := 11) sc_l_grown_right.nd rfl (by first | exact Or.inl rfl | exact Or.inr rfl))) (dss_cons (ds_set (i := 12) (fun ht hh => ps_set sc_l_grown_right.nd rfl (by first | exact Or.inl rfl | exact Or.inr rfl) hh) (de_callF (ok_one_colour T) (hr.mono (by decide)) rfl tk (da_cons (de_var (pv 0)) (da_cons (de_bin opd_add (de_var (pv 7)) (de_callT cd_str rfl T.m_str (by decide +kernel) (da_cons (de_var (pv 11)) da_nil))) (da_cons de_bl da_nil))))) (dss_cons (ds_if (dt_cmp (opd_ne hr.units) (de_cmp opd_isN (de_var (pv 12)) de_non (nomark _)) (de_cmp opd_in (de_var (pv 11)) (de_var (pv 10)) (by rfl)) (nomark _)) (dss_one (ds_ret de_bl)) dss_nil) (dss_one (ds_set (i := 6) (fun ht hh => ps_set sc_l_grown_right.nd rfl (by first | exact Or.inl rfl | exact Or.inr rfl) hh) (de_bin opd_add (de_var (pv 6)) (de_ifN (dt_cmp opd_isN (de_var (pv 12)) de_non (nomark _)) (de_lst (da_cons (de_bin opd_add (de_var (pv 7)) (de_callT cd_str rfl T.m_str (by decide +kernel) (da_cons (de_var (pv 11)) da_nil))) da_nil)) (de_lst da_nil)))))))))))) (dss_cons (ds_if (dt_cmp opd_gt (de_callB cd_len rfl T.m_len (by decide +kernel) (da_cons (de_var (pv 3)) da_nil)) de_int (nomark _)) (dss_one (ds_ret de_bl)) dss_nil) (dss_one (ds_set (i := 3) (fun ht hh => ps_set sc_l_grown_right.nd rfl (by first | exact Or.inl rfl | exact Or.inr rfl) hh) (de_var (pv 6)))))))))) (dss_one (ds_ret de_bl)))), ?_⟩)
  intro ds M Φ hn h
  obtain ⟨L, colours, many, rfl, so, c3, k1, k4, hm, h⟩ := h
  simp (decide := true) only [startR, exists_and_left, at0, at1, at2, ix30, ix31, ix32, List.set_cons_zero, List.set_cons_succ, Option.some.injEq, MO.lst.injEq, P.int.injEq, P.tup.injEq, P.lst.injEq, exists_eq_left, exists_eq_left', exists_eq, updM_same, updM_updM, reduceCtorEq, List.length_map, List.map_cons, List.map_nil, List.length_cons, List.length_nil, Nat.reduceAdd, Nat.reduceSub, List.replicate_zero, List.replicate_succ, List.cons_append, List.nil_append, List.append_nil, List.append_assoc, Nat.sub_self, true_and, and_true, if_true, Bool.false_eq_true, if_false, dSeq, dNext, dIfS, dRet, dRetN, dAsg, dDrop, dVar, lk, dC, dCons, dNil, dTup, dLst, dLstM, dFz, dBin, dTest, asB, dChain, dTru, truW, dAnd, dOr, dNot, dAndV, dOrV, dNotV, dNeg, dIf, idxW, dNo, dSo, dCut, dCB, dCall, dCall0, int0, intW, isiW, put, gdName, gdSub, gdTup, gdCons, gdNil, dPar, dPar3, dRaise, EndsR, dLc, dLcM, iSeq, iTupD, iLst, iZipD, iEnumD, iRg1, iRg2, iStrD, wipeR, wipeR.unput, dFor, lenW, sqW, lsW, allW, anyW, sumW, tupCW, lstCW, lstCMW, absW, intCW, strCW, eqW, neW, isNonW, notNonW, nonB, addW, addMW, mulLW, inW, cutW, dRev, dAppC, dPop, dLRg1, dLRg2, dSplitC, dJoinC, dIsi2, tyN, isi, Option.isSome_some, Option.isSome_none, deref_int, deref_bl, deref_str, deref_non, deref_tup, deref_lst, ok_int, ok_bl, ok_non, peq_int, Bool.not_true, Bool.not_false, decide_eq_true_eq, true_or, or_true, false_or, or_false, false_and, and_false, not_true_eq_false, not_false_eq_true, Bool.not_eq_true', decide_eq_false_iff_not, ex_ins, dFld, dFldS, dMeth, dMeth0, dMake, dProp, dAugO, boolOW, intSW, MO.ins.injEq, bd_frame, bd_every, bd_lots, bd_now, bd_past, bd_put_now, bd_put_past, bd_no_renew, bd_no_undo, bd_length, ini1, ini2, ini3, ini4, ini5, ini_e2, ini_e3, ini_l3, ini_n1, ini_n2, ini_n3, ini_n4]
  intro b dx hb
  refine ⟨b, dx, L, rfl, so, by omega, updM_same, fun lots lo => ⟨rfl, ⟨by omega, by omega⟩, ?_⟩⟩
  rw [updM_updM]
  rename Mm => M0
  have ep : ∀ row ∈ ansU L 16 false, row ≠ [] ∧ ∀ x ∈ row, 1 ≤ x := fun row hr => by
    obtain ⟨a1, a2⟩ := ansU_mem hr
    have := so.c1
    exact ⟨fun e => by rw [e] at a1; rw [← a1] at this; exact absurd this (by decide), fun x hx => (a2 x hx).1⟩
  have same : ∀ n, n ≤ 16 → SameTo n (ansU L n false) (ansU L 16 false) := fun n hn => ansU_to (n := n) (Nat.le_refl _) hn
  have rowsEq : ∀ n, n ≤ 16 → rowsOfC (ansU L n false) colours n = rowsOfC (ansU L 16 false) colours n := fun n hn => rows_to (by omega) (same n hn) n (Nat.le_refl _)
  rw [show ((many : Int) + 1).toNat = many + 1 by omega]
  refine for_gen (fun xs ρ M => ∃ (n : Nat) (t5 t6 t7 t8 t9 t10 t11 t12 : Option P), n ≤ many + 1 ∧ xs = iota (n : Int) (many + 1 - n) ∧ M b = some (.ins (He.ga K "Board") dx (bdF L lots Str.empty [])) ∧ (∀ j o, M0 j = some o → M j = some o) ∧ ρ = [some (sysP L), some (.int colours), some (.int many), some (.lst ((rowsOfC (ansU L 16 false) colours n).map P.str)), some (.ref b), t5, t6, t7, t8, t9, t10, t11, t12]) (fun x xs ρ M nx hI hnx => ?_) (fun ρ M hI => ?_) _ _ _ ⟨0, _, _, _, _, _, _, _, _, by omega, rfl, updM_same, fun j o e => ?_, rfl⟩
  · obtain ⟨n, t5, t6, t7, t8, t9, t10, t11, t12, hn, ex, hM, hMo, rfl⟩ := hI
    have lt : n < many + 1 := by
      rcases Nat.lt_or_ge n (many + 1) with q | q
      · exact q
      · rw [show many + 1 - n = 0 by omega] at ex; cases ex
    rw [show many + 1 - n = (many + 1 - (n + 1)) + 1 by omega, iota_succ] at ex
    obtain ⟨rfl, rfl⟩ := List.cons.inj ex
    have small : (rowsOfC (ansU L 16 false) colours n).length ≤ 65536 := Nat.le_trans (rows_few _ colours n) (Nat.le_trans (Nat.pow_le_pow_left k4 _) (Nat.le_trans (Nat.pow_le_pow_right (by decide) (show n ≤ 8 by omega)) (by decide)))
    simp (decide := true) only [startR, exists_and_left, at0, at1, at2, ix30, ix31, ix32, List.set_cons_zero, List.set_cons_succ, Option.some.injEq, MO.lst.injEq, P.int.injEq, P.tup.injEq, P.lst.injEq, exists_eq_left, exists_eq_left', exists_eq, updM_same, updM_updM, reduceCtorEq, List.length_map, List.map_cons, List.map_nil, List.length_cons, List.length_nil, Nat.reduceAdd, Nat.reduceSub, List.replicate_zero, List.replicate_succ, List.cons_append, List.nil_append, List.append_nil, List.append_assoc, Nat.sub_self, true_and, and_true, if_true, Bool.false_eq_true, if_false, dSeq, dNext, dIfS, dRet, dRetN, dAsg, dDrop, dVar, lk, dC, dCons, dNil, dTup, dLst, dLstM, dFz, dBin, dTest, asB, dChain, dTru, truW, dAnd, dOr, dNot, dAndV, dOrV, dNotV, dNeg, dIf, idxW, dNo, dSo, dCut, dCB, dCall, dCall0, int0, intW, isiW, put, gdName, gdSub, gdTup, gdCons, gdNil, dPar, dPar3, dRaise, EndsR, dLc, dLcM, iSeq, iTupD, iLst, iZipD, iEnumD, iRg1, iRg2, iStrD, wipeR, wipeR.unput, dFor, lenW, sqW, lsW, allW, anyW, sumW, tupCW, lstCW, lstCMW, absW, intCW, strCW, eqW, neW, isNonW, notNonW, nonB, addW, addMW, mulLW, inW, cutW, dRev, dAppC, dPop, dLRg1, dLRg2, dSplitC, dJoinC, dIsi2, tyN, isi, Option.isSome_some, Option.isSome_none, deref_int, deref_bl, deref_str, deref_non, deref_tup, deref_lst, ok_int, ok_bl, ok_non, peq_int, Bool.not_true, Bool.not_false, decide_eq_true_eq, true_or, or_true, false_or, or_false, false_and, and_false, not_true_eq_false, not_false_eq_true, Bool.not_eq_true', decide_eq_false_iff_not, ex_ins, dFld, dFldS, dMeth, dMeth0, dMake, dProp, dAugO, boolOW, intSW, MO.ins.injEq, bd_frame, bd_every, bd_lots, bd_now, bd_past, bd_put_now, bd_put_past, bd_no_renew, bd_no_undo, bd_length, ini1, ini2, ini3, ini4, ini5, ini_e2, ini_e3, ini_l3, ini_n1, ini_n2, ini_n3, ini_n4]
    refine go_count so (by omega) k1 k4 (by omega) ?_
    rw [rowsEq n (by omega)]
    refine ⟨rfl, ite_n (by show ¬ (peq (.int _) (.int _) = false); rw [peq_int, decide_eq_true rfl]; decide) ?_⟩
    refine go_avoiding so (by omega) k1 k4 (by omega) ?_
    have ef : firstC (ansU L n false) colours n = firstC (ansU L 16 false) colours n := by unfold firstC; rw [rowsEq n (by omega)]
    rw [ef]
    have okF : okP (optS (firstC (ansU L 16 false) colours n)) = true := ok_optS (by omega)
    have dF : ∀ M, deref M (optS (firstC (ansU L 16 false) colours n)) = optS (firstC (ansU L 16 false) colours n) := fun M => by cases firstC (ansU L 16 false) colours n <;> rfl
    refine dIfN_is (optS (firstC (ansU L 16 false) colours n)) ?_ (fun Φ' h' => ?_)
    · rw [dF]
      refine ⟨⟨okF, okF⟩, ite_n (by rw [peq_optS]; decide) ?_⟩
      rw [cut8, ← List.map_take]
      refine for_gen (fun xs ρ M => ∃ (done rest : List Str) (t7 t8 t9 t10 t11 t12 : Option P), (rowsOfC (ansU L 16 false) colours n).take 8 = done ++ rest ∧ xs = rest.map P.str ∧ M b = some (.ins (He.ga K "Board") dx (bdF L lots Str.empty [])) ∧ (∀ j o, M0 j = some o → M j = some o) ∧ ρ = [some (sysP L), some (.int colours), some (.int many), some (.lst ((rowsOfC (ansU L 16 false) colours n).map P.str)), some (.ref b), some (.int n), some (.lst ((done.flatMap (kids (ansU L 16 false) colours)).map P.str)), t7, t8, t9, t10, t11, t12]) (fun x xs ρ M nx2 hI hnx2 => ?_) (fun ρ M hI => ?_) _ _ _ ⟨[], _, _, _, _, _, _, _, rfl, rfl, hM, hMo, rfl⟩
      · obtain ⟨done, rest, t7, t8, t9, t10, t11, t12, eg, ey, hM, hMo, rfl⟩ := hI
        cases rest with
        | nil => cases ey
        | cons z rest =>
          rw [List.map_cons] at ey
          obtain ⟨rfl, rfl⟩ := List.cons.inj ey
          have hz : z ∈ rowsOfC (ansU L 16 false) colours n := List.mem_of_mem_take (i := 8) (by rw [eg]; exact List.mem_append_right _ List.mem_cons_self)
          have hzl := rows_len (every := ansU L 16 false) (show colours ≤ 10 by omega) n z hz
          have hzs := rows_signs (every := ansU L 16 false) (show colours ≤ 10 by omega) n z hz
          have hzc : isCol 16 (.str z) = true := col_signs hzs k4 (by omega)
          have hzf : fitP (.str z) = true := fit_col hzc
          have hav : oneCol (ansU L 16 false) z = none := by
            unfold oneCol
            rw [List.find?_eq_none]
            intro row hr q
            rw [rows_avoid (by omega) ep n z hz row hr] at q
            cases q
          have dl : done.length ≤ 8 := by
            have := congrArg List.length eg
            rw [List.length_take, List.length_append] at this
            omega
          have dkl : (done.flatMap (kids (ansU L 16 false) colours)).length ≤ 32 := by
            have := flat_few (kids_few (ansU L 16 false) colours) done
            have : done.length * colours ≤ 8 * 4 := Nat.mul_le_mul dl k4
            omega
          simp (decide := true) only [startR, exists_and_left, at0, at1, at2, ix30, ix31, ix32, List.set_cons_zero, List.set_cons_succ, Option.some.injEq, MO.lst.injEq, P.int.injEq, P.tup.injEq, P.lst.injEq, exists_eq_left, exists_eq_left', exists_eq, updM_same, updM_updM, reduceCtorEq, List.length_map, List.map_cons, List.map_nil, List.length_cons, List.length_nil, Nat.reduceAdd, Nat.reduceSub, List.replicate_zero, List.replicate_succ, List.cons_append, List.nil_append, List.append_nil, List.append_assoc, Nat.sub_self, true_and, and_true, if_true, Bool.false_eq_true, if_false, dSeq, dNext, dIfS, dRet, dRetN, dAsg, dDrop, dVar, lk, dC, dCons, dNil, dTup, dLst, dLstM, dFz, dBin, dTest, asB, dChain, dTru, truW, dAnd, dOr, dNot, dAndV, dOrV, dNotV, dNeg, dIf, idxW, dNo, dSo, dCut, dCB, dCall, dCall0, int0, intW, isiW, put, gdName, gdSub, gdTup, gdCons, gdNil, dPar, dPar3, dRaise, EndsR, dLc, dLcM, iSeq, iTupD, iLst, iZipD, iEnumD, iRg1, iRg2, iStrD, wipeR, wipeR.unput, dFor, lenW, sqW, lsW, allW, anyW, sumW, tupCW, lstCW, lstCMW, absW, intCW, strCW, eqW, neW, isNonW, notNonW, nonB, addW, addMW, mulLW, inW, cutW, dRev, dAppC, dPop, dLRg1, dLRg2, dSplitC, dJoinC, dIsi2, tyN, isi, Option.isSome_some, Option.isSome_none, deref_int, deref_bl, deref_str, deref_non, deref_tup, deref_lst, ok_int, ok_bl, ok_non, peq_int, Bool.not_true, Bool.not_false, decide_eq_true_eq, true_or, or_true, false_or, or_false, false_and, and_false, not_true_eq_false, not_false_eq_true, Bool.not_eq_true', decide_eq_false_iff_not, ex_ins, dFld, dFldS, dMeth, dMeth0, dMake, dProp, dAugO, boolOW, intSW, MO.ins.injEq, bd_frame, bd_every, bd_lots, bd_now, bd_past, bd_put_now, bd_put_past, bd_no_renew, bd_no_undo, bd_length, ini1, ini2, ini3, ini4, ini5, ini_e2, ini_e3, ini_l3, ini_n1, ini_n2, ini_n3, ini_n4]
          refine ⟨b, dx, L, lots, z, rfl, so, by omega, hM, lo, hzc, by omega, fun M1 hM1 => ?_⟩
          simp (decide := true) only [startR, exists_and_left, at0, at1, at2, ix30, ix31, ix32, List.set_cons_zero, List.set_cons_succ, Option.some.injEq, MO.lst.injEq, P.int.injEq, P.tup.injEq, P.lst.injEq, exists_eq_left, exists_eq_left', exists_eq, updM_same, updM_updM, reduceCtorEq, List.length_map, List.map_cons, List.map_nil, List.length_cons, List.length_nil, Nat.reduceAdd, Nat.reduceSub, List.replicate_zero, List.replicate_succ, List.cons_append, List.nil_append, List.append_nil, List.append_assoc, Nat.sub_self, true_and, and_true, if_true, Bool.false_eq_true, if_false, dSeq, dNext, dIfS, dRet, dRetN, dAsg, dDrop, dVar, lk, dC, dCons, dNil, dTup, dLst, dLstM, dFz, dBin, dTest, asB, dChain, dTru, truW, dAnd, dOr, dNot, dAndV, dOrV, dNotV, dNeg, dIf, idxW, dNo, dSo, dCut, dCB, dCall, dCall0, int0, intW, isiW, put, gdName, gdSub, gdTup, gdCons, gdNil, dPar, dPar3, dRaise, EndsR, dLc, dLcM, iSeq, iTupD, iLst, iZipD, iEnumD, iRg1, iRg2, iStrD, wipeR, wipeR.unput, dFor, lenW, sqW, lsW, allW, anyW, sumW, tupCW, lstCW, lstCMW, absW, intCW, strCW, eqW, neW, isNonW, notNonW, nonB, addW, addMW, mulLW, inW, cutW, dRev, dAppC, dPop, dLRg1, dLRg2, dSplitC, dJoinC, dIsi2, tyN, isi, Option.isSome_some, Option.isSome_none, deref_int, deref_bl, deref_str, deref_non, deref_tup, deref_lst, ok_int, ok_bl, ok_non, peq_int, Bool.not_true, Bool.not_false, decide_eq_true_eq, true_or, or_true, false_or, or_false, false_and, and_false, not_true_eq_false, not_false_eq_true, Bool.not_eq_true', decide_eq_false_iff_not, ex_ins, dFld, dFldS, dMeth, dMeth0, dMake, dProp, dAugO, boolOW, intSW, MO.ins.injEq, bd_frame, bd_every, bd_lots, bd_now, bd_past, bd_put_now, bd_put_past, bd_no_renew, bd_no_undo, bd_length, ini1, ini2, ini3, ini4, ini5, ini_e2, ini_e3, ini_l3, ini_n1, ini_n2, ini_n3, ini_n4, hav, optP, Option.isNone]
          refine go_one so c3 hzc hzf (by omega) ?_
          have e1 : oneCol (ansU L z.length false) z = none := by
            have := one_to (same z.length (by omega)) (Nat.le_refl z.length)
            rw [hav] at this
            exact Option.isNone_iff_eq_none.mp this
          rw [e1]
          simp (decide := true) only [startR, exists_and_left, at0, at1, at2, ix30, ix31, ix32, List.set_cons_zero, List.set_cons_succ, Option.some.injEq, MO.lst.injEq, P.int.injEq, P.tup.injEq, P.lst.injEq, exists_eq_left, exists_eq_left', exists_eq, updM_same, updM_updM, reduceCtorEq, List.length_map, List.map_cons, List.map_nil, List.length_cons, List.length_nil, Nat.reduceAdd, Nat.reduceSub, List.replicate_zero, List.replicate_succ, List.cons_append, List.nil_append, List.append_nil, List.append_assoc, Nat.sub_self, true_and, and_true, if_true, Bool.false_eq_true, if_false, dSeq, dNext, dIfS, dRet, dRetN, dAsg, dDrop, dVar, lk, dC, dCons, dNil, dTup, dLst, dLstM, dFz, dBin, dTest, asB, dChain, dTru, truW, dAnd, dOr, dNot, dAndV, dOrV, dNotV, dNeg, dIf, idxW, dNo, dSo, dCut, dCB, dCall, dCall0, int0, intW, isiW, put, gdName, gdSub, gdTup, gdCons, gdNil, dPar, dPar3, dRaise, EndsR, dLc, dLcM, iSeq, iTupD, iLst, iZipD, iEnumD, iRg1, iRg2, iStrD, wipeR, wipeR.unput, dFor, lenW, sqW, lsW, allW, anyW, sumW, tupCW, lstCW, lstCMW, absW, intCW, strCW, eqW, neW, isNonW, notNonW, nonB, addW, addMW, mulLW, inW, cutW, dRev, dAppC, dPop, dLRg1, dLRg2, dSplitC, dJoinC, dIsi2, tyN, isi, Option.isSome_some, Option.isSome_none, deref_int, deref_bl, deref_str, deref_non, deref_tup, deref_lst, ok_int, ok_bl, ok_non, peq_int, Bool.not_true, Bool.not_false, decide_eq_true_eq, true_or, or_true, false_or, or_false, false_and, and_false, not_true_eq_false, not_false_eq_true, Bool.not_eq_true', decide_eq_false_iff_not, ex_ins, dFld, dFldS, dMeth, dMeth0, dMake, dProp, dAugO, boolOW, intSW, MO.ins.injEq, bd_frame, bd_every, bd_lots, bd_now, bd_past, bd_put_now, bd_put_past, bd_no_renew, bd_no_undo, bd_length, ini1, ini2, ini3, ini4, ini5, ini_e2, ini_e3, ini_l3, ini_n1, ini_n2, ini_n3, ini_n4, optP]
          rw [Int.toNat_natCast]
          refine ⟨⟨by omega, by omega⟩, for_gen (fun xs ρ M => ∃ (k : Nat) (t11 t12 : Option P), k ≤ colours ∧ xs = iota (k : Int) (colours - k) ∧ M = M1 ∧ ρ = [some (sysP L), some (.int colours), some (.int many), some (.lst ((rowsOfC (ansU L 16 false) colours n).map P.str)), some (.ref b), some (.int n), some (.lst ((done.flatMap (kids (ansU L 16 false) colours) ++ kidsTo (ansU L 16 false) z k).map P.str)), some (.str z), some .non, some (.bl true), some (.lst ((freeL (ansU L 16 false) z).map fun i : Nat => P.int (i : Int))), t11, t12]) (fun x xs ρ M nx3 hI hnx3 => ?_) (fun ρ M hI => ?_) _ _ _ ⟨0, t11, t12, by omega, rfl, rfl, by unfold kidsTo; simp⟩⟩
          · obtain ⟨k, t11, t12, hk, ek, rfl, rfl⟩ := hI
            have ltk : k < colours := by
              rcases Nat.lt_or_ge k colours with q | q
              · exact q
              · rw [show colours - k = 0 by omega] at ek; cases ek
            rw [show colours - k = (colours - (k + 1)) + 1 by omega, iota_succ] at ek
            obtain ⟨rfl, rfl⟩ := List.cons.inj ek
            have hl1 := cs_len (i := k) (by omega)
            have ecs : (toString (k : Int) : Str) = cs k := rfl
            have hkl := kidsTo_len (ansU L 16 false) z k
            have hyl : (z ++ cs k).length = n + 1 := by rw [app_len]; omega
            have hys : Signs 4 (z ++ cs k) := by
              intro c hc
              rw [app_cps, cs_cps (by omega)] at hc
              rcases List.mem_append.mp hc with q | q
              · have := hzs c q; omega
              · rw [List.mem_singleton.mp q]; omega
            have hyc := col_signs hys (Nat.le_refl 4) (by omega)
            have egn : (oneCol (ansU L (z ++ cs k).length false) (z ++ cs k)).isNone = goesOn (ansU L 16 false) z (cs k) := by
              rw [one_to (same (z ++ cs k).length (by omega)) (Nat.le_refl _)]
              exact goes_one_all (by omega) ep hav
            have epin : pin (.int k) ((freeL (ansU L 16 false) z).map fun i : Nat => P.int (i : Int)) = goesOn (ansU L 16 false) z (cs k) := by
              have := pin_int k ((freeL (ansU L 16 false) z).map fun i : Nat => (i : Int))
              rw [List.map_map] at this
              refine Eq.trans this ?_
              exact free_in (by omega) (by omega)
            have flatF : (((freeL (ansU L 16 false) z).map fun i : Nat => P.int (i : Int)).all flatP) = true := List.all_eq_true.mpr fun x hx => by
              obtain ⟨i, _, rfl⟩ := List.mem_map.mp hx
              rfl
            simp (decide := true) only [startR, exists_and_left, at0, at1, at2, ix30, ix31, ix32, List.set_cons_zero, List.set_cons_succ, Option.some.injEq, MO.lst.injEq, P.int.injEq, P.tup.injEq, P.lst.injEq, exists_eq_left, exists_eq_left', exists_eq, updM_same, updM_updM, reduceCtorEq, List.length_map, List.map_cons, List.map_nil, List.length_cons, List.length_nil, Nat.reduceAdd, Nat.reduceSub, List.replicate_zero, List.replicate_succ, List.cons_append, List.nil_append, List.append_nil, List.append_assoc, Nat.sub_self, true_and, and_true, if_true, Bool.false_eq_true, if_false, dSeq, dNext, dIfS, dRet, dRetN, dAsg, dDrop, dVar, lk, dC, dCons, dNil, dTup, dLst, dLstM, dFz, dBin, dTest, asB, dChain, dTru, truW, dAnd, dOr, dNot, dAndV, dOrV, dNotV, dNeg, dIf, idxW, dNo, dSo, dCut, dCB, dCall, dCall0, int0, intW, isiW, put, gdName, gdSub, gdTup, gdCons, gdNil, dPar, dPar3, dRaise, EndsR, dLc, dLcM, iSeq, iTupD, iLst, iZipD, iEnumD, iRg1, iRg2, iStrD, wipeR, wipeR.unput, dFor, lenW, sqW, lsW, allW, anyW, sumW, tupCW, lstCW, lstCMW, absW, intCW, strCW, eqW, neW, isNonW, notNonW, nonB, addW, addMW, mulLW, inW, cutW, dRev, dAppC, dPop, dLRg1, dLRg2, dSplitC, dJoinC, dIsi2, tyN, isi, Option.isSome_some, Option.isSome_none, deref_int, deref_bl, deref_str, deref_non, deref_tup, deref_lst, ok_int, ok_bl, ok_non, peq_int, Bool.not_true, Bool.not_false, decide_eq_true_eq, true_or, or_true, false_or, or_false, false_and, and_false, not_true_eq_false, not_false_eq_true, Bool.not_eq_true', decide_eq_false_iff_not, ex_ins, dFld, dFldS, dMeth, dMeth0, dMake, dProp, dAugO, boolOW, intSW, MO.ins.injEq, bd_frame, bd_every, bd_lots, bd_now, bd_past, bd_put_now, bd_put_past, bd_no_renew, bd_no_undo, bd_length, ini1, ini2, ini3, ini4, ini5, ini_e2, ini_e3, ini_l3, ini_n1, ini_n2, ini_n3, ini_n4, ecs]
            refine ⟨log_small (by omega), line_of (by omega), go_one so c3 hyc (fit_col hyc) (by omega) ?_⟩
            cases hr : oneCol (ansU L (z ++ cs k).length false) (z ++ cs k) with
            | none =>
              rw [hr] at egn
              have eg : goesOn (ansU L 16 false) z (cs k) = true := egn.symm
              simp (decide := true) only [startR, exists_and_left, at0, at1, at2, ix30, ix31, ix32, List.set_cons_zero, List.set_cons_succ, Option.some.injEq, MO.lst.injEq, P.int.injEq, P.tup.injEq, P.lst.injEq, exists_eq_left, exists_eq_left', exists_eq, updM_same, updM_updM, reduceCtorEq, List.length_map, List.map_cons, List.map_nil, List.length_cons, List.length_nil, Nat.reduceAdd, Nat.reduceSub, List.replicate_zero, List.replicate_succ, List.cons_append, List.nil_append, List.append_nil, List.append_assoc, Nat.sub_self, true_and, and_true, if_true, Bool.false_eq_true, if_false, dSeq, dNext, dIfS, dRet, dRetN, dAsg, dDrop, dVar, lk, dC, dCons, dNil, dTup, dLst, dLstM, dFz, dBin, dTest, asB, dChain, dTru, truW, dAnd, dOr, dNot, dAndV, dOrV, dNotV, dNeg, dIf, idxW, dNo, dSo, dCut, dCB, dCall, dCall0, int0, intW, isiW, put, gdName, gdSub, gdTup, gdCons, gdNil, dPar, dPar3, dRaise, EndsR, dLc, dLcM, iSeq, iTupD, iLst, iZipD, iEnumD, iRg1, iRg2, iStrD, wipeR, wipeR.unput, dFor, lenW, sqW, lsW, allW, anyW, sumW, tupCW, lstCW, lstCMW, absW, intCW, strCW, eqW, neW, isNonW, notNonW, nonB, addW, addMW, mulLW, inW, cutW, dRev, dAppC, dPop, dLRg1, dLRg2, dSplitC, dJoinC, dIsi2, tyN, isi, Option.isSome_some, Option.isSome_none, deref_int, deref_bl, deref_str, deref_non, deref_tup, deref_lst, ok_int, ok_bl, ok_non, peq_int, Bool.not_true, Bool.not_false, decide_eq_true_eq, true_or, or_true, false_or, or_false, false_and, and_false, not_true_eq_false, not_false_eq_true, Bool.not_eq_true', decide_eq_false_iff_not, ex_ins, dFld, dFldS, dMeth, dMeth0, dMake, dProp, dAugO, boolOW, intSW, MO.ins.injEq, bd_frame, bd_every, bd_lots, bd_now, bd_past, bd_put_now, bd_put_past, bd_no_renew, bd_no_undo, bd_length, ini1, ini2, ini3, ini4, ini5, ini_e2, ini_e3, ini_l3, ini_n1, ini_n2, ini_n3, ini_n4, optP, epin, eg]
              refine ⟨⟨rfl, flatF⟩, dIfN_is (.lst [.str (z ++ cs k)]) ?_ (fun Φ' h' => ?_)⟩
              · simp (decide := true) only [startR, exists_and_left, at0, at1, at2, ix30, ix31, ix32, List.set_cons_zero, List.set_cons_succ, Option.some.injEq, MO.lst.injEq, P.int.injEq, P.tup.injEq, P.lst.injEq, exists_eq_left, exists_eq_left', exists_eq, updM_same, updM_updM, reduceCtorEq, List.length_map, List.map_cons, List.map_nil, List.length_cons, List.length_nil, Nat.reduceAdd, Nat.reduceSub, List.replicate_zero, List.replicate_succ, List.cons_append, List.nil_append, List.append_nil, List.append_assoc, Nat.sub_self, true_and, and_true, if_true, Bool.false_eq_true, if_false, dSeq, dNext, dIfS, dRet, dRetN, dAsg, dDrop, dVar, lk, dC, dCons, dNil, dTup, dLst, dLstM, dFz, dBin, dTest, asB, dChain, dTru, truW, dAnd, dOr, dNot, dAndV, dOrV, dNotV, dNeg, dIf, idxW, dNo, dSo, dCut, dCB, dCall, dCall0, int0, intW, isiW, put, gdName, gdSub, gdTup, gdCons, gdNil, dPar, dPar3, dRaise, EndsR, dLc, dLcM, iSeq, iTupD, iLst, iZipD, iEnumD, iRg1, iRg2, iStrD, wipeR, wipeR.unput, dFor, lenW, sqW, lsW, allW, anyW, sumW, tupCW, lstCW, lstCMW, absW, intCW, strCW, eqW, neW, isNonW, notNonW, nonB, addW, addMW, mulLW, inW, cutW, dRev, dAppC, dPop, dLRg1, dLRg2, dSplitC, dJoinC, dIsi2, tyN, isi, Option.isSome_some, Option.isSome_none, deref_int, deref_bl, deref_str, deref_non, deref_tup, deref_lst, ok_int, ok_bl, ok_non, peq_int, Bool.not_true, Bool.not_false, decide_eq_true_eq, true_or, or_true, false_or, or_false, false_and, and_false, not_true_eq_false, not_false_eq_true, Bool.not_eq_true', decide_eq_false_iff_not, ex_ins, dFld, dFldS, dMeth, dMeth0, dMake, dProp, dAugO, boolOW, intSW, MO.ins.injEq, bd_frame, bd_every, bd_lots, bd_now, bd_past, bd_put_now, bd_put_past, bd_no_renew, bd_no_undo, bd_length, ini1, ini2, ini3, ini4, ini5, ini_e2, ini_e3, ini_l3, ini_n1, ini_n2, ini_n3, ini_n4]
                rw [List.length_append]
                refine ⟨line_of (by omega), ?_⟩
                have ek : (done.flatMap (kids (ansU L 16 false) colours) ++ kidsTo (ansU L 16 false) z k).map P.str ++ [.str (z ++ cs k)] = (done.flatMap (kids (ansU L 16 false) colours) ++ kidsTo (ansU L 16 false) z (k + 1)).map P.str := by
                  rw [kidsTo_succ, if_pos eg, ← List.append_assoc, List.map_append (l₁ := done.flatMap (kids (ansU L 16 false) colours) ++ kidsTo (ansU L 16 false) z k)]; rfl
                rw [ek]
                exact hnx3 _ _ ⟨k + 1, _, _, ltk, rfl, rfl, rfl⟩
              · show dIf _ _ _ _ _ _
                simp (decide := true) only [startR, exists_and_left, at0, at1, at2, ix30, ix31, ix32, List.set_cons_zero, List.set_cons_succ, Option.some.injEq, MO.lst.injEq, P.int.injEq, P.tup.injEq, P.lst.injEq, exists_eq_left, exists_eq_left', exists_eq, updM_same, updM_updM, reduceCtorEq, List.length_map, List.map_cons, List.map_nil, List.length_cons, List.length_nil, Nat.reduceAdd, Nat.reduceSub, List.replicate_zero, List.replicate_succ, List.cons_append, List.nil_append, List.append_nil, List.append_assoc, Nat.sub_self, true_and, and_true, if_true, Bool.false_eq_true, if_false, dSeq, dNext, dIfS, dRet, dRetN, dAsg, dDrop, dVar, lk, dC, dCons, dNil, dTup, dLst, dLstM, dFz, dBin, dTest, asB, dChain, dTru, truW, dAnd, dOr, dNot, dAndV, dOrV, dNotV, dNeg, dIf, idxW, dNo, dSo, dCut, dCB, dCall, dCall0, int0, intW, isiW, put, gdName, gdSub, gdTup, gdCons, gdNil, dPar, dPar3, dRaise, EndsR, dLc, dLcM, iSeq, iTupD, iLst, iZipD, iEnumD, iRg1, iRg2, iStrD, wipeR, wipeR.unput, dFor, lenW, sqW, lsW, allW, anyW, sumW, tupCW, lstCW, lstCMW, absW, intCW, strCW, eqW, neW, isNonW, notNonW, nonB, addW, addMW, mulLW, inW, cutW, dRev, dAppC, dPop, dLRg1, dLRg2, dSplitC, dJoinC, dIsi2, tyN, isi, Option.isSome_some, Option.isSome_none, deref_int, deref_bl, deref_str, deref_non, deref_tup, deref_lst, ok_int, ok_bl, ok_non, peq_int, Bool.not_true, Bool.not_false, decide_eq_true_eq, true_or, or_true, false_or, or_false, false_and, and_false, not_true_eq_false, not_false_eq_true, Bool.not_eq_true', decide_eq_false_iff_not, ex_ins, dFld, dFldS, dMeth, dMeth0, dMake, dProp, dAugO, boolOW, intSW, MO.ins.injEq, bd_frame, bd_every, bd_lots, bd_now, bd_past, bd_put_now, bd_put_past, bd_no_renew, bd_no_undo, bd_length, ini1, ini2, ini3, ini4, ini5, ini_e2, ini_e3, ini_l3, ini_n1, ini_n2, ini_n3, ini_n4, ecs]
                exact ⟨log_small (by omega), line_of (by omega), h'⟩
            | some row =>
              rw [hr] at egn
              have eg : goesOn (ansU L 16 false) z (cs k) = false := egn.symm
              simp (decide := true) only [startR, exists_and_left, at0, at1, at2, ix30, ix31, ix32, List.set_cons_zero, List.set_cons_succ, Option.some.injEq, MO.lst.injEq, P.int.injEq, P.tup.injEq, P.lst.injEq, exists_eq_left, exists_eq_left', exists_eq, updM_same, updM_updM, reduceCtorEq, List.length_map, List.map_cons, List.map_nil, List.length_cons, List.length_nil, Nat.reduceAdd, Nat.reduceSub, List.replicate_zero, List.replicate_succ, List.cons_append, List.nil_append, List.append_nil, List.append_assoc, Nat.sub_self, true_and, and_true, if_true, Bool.false_eq_true, if_false, dSeq, dNext, dIfS, dRet, dRetN, dAsg, dDrop, dVar, lk, dC, dCons, dNil, dTup, dLst, dLstM, dFz, dBin, dTest, asB, dChain, dTru, truW, dAnd, dOr, dNot, dAndV, dOrV, dNotV, dNeg, dIf, idxW, dNo, dSo, dCut, dCB, dCall, dCall0, int0, intW, isiW, put, gdName, gdSub, gdTup, gdCons, gdNil, dPar, dPar3, dRaise, EndsR, dLc, dLcM, iSeq, iTupD, iLst, iZipD, iEnumD, iRg1, iRg2, iStrD, wipeR, wipeR.unput, dFor, lenW, sqW, lsW, allW, anyW, sumW, tupCW, lstCW, lstCMW, absW, intCW, strCW, eqW, neW, isNonW, notNonW, nonB, addW, addMW, mulLW, inW, cutW, dRev, dAppC, dPop, dLRg1, dLRg2, dSplitC, dJoinC, dIsi2, tyN, isi, Option.isSome_some, Option.isSome_none, deref_int, deref_bl, deref_str, deref_non, deref_tup, deref_lst, ok_int, ok_bl, ok_non, peq_int, Bool.not_true, Bool.not_false, decide_eq_true_eq, true_or, or_true, false_or, or_false, false_and, and_false, not_true_eq_false, not_false_eq_true, Bool.not_eq_true', decide_eq_false_iff_not, ex_ins, dFld, dFldS, dMeth, dMeth0, dMake, dProp, dAugO, boolOW, intSW, MO.ins.injEq, bd_frame, bd_every, bd_lots, bd_now, bd_past, bd_put_now, bd_put_past, bd_no_renew, bd_no_undo, bd_length, ini1, ini2, ini3, ini4, ini5, ini_e2, ini_e3, ini_l3, ini_n1, ini_n2, ini_n3, ini_n4, optP, epin, eg, tupI]
              refine ⟨⟨rfl, flatF⟩, dIfN_is (.lst []) ?_ (fun Φ' h' => ?_)⟩
              · simp (decide := true) only [startR, exists_and_left, at0, at1, at2, ix30, ix31, ix32, List.set_cons_zero, List.set_cons_succ, Option.some.injEq, MO.lst.injEq, P.int.injEq, P.tup.injEq, P.lst.injEq, exists_eq_left, exists_eq_left', exists_eq, updM_same, updM_updM, reduceCtorEq, List.length_map, List.map_cons, List.map_nil, List.length_cons, List.length_nil, Nat.reduceAdd, Nat.reduceSub, List.replicate_zero, List.replicate_succ, List.cons_append, List.nil_append, List.append_nil, List.append_assoc, Nat.sub_self, true_and, and_true, if_true, Bool.false_eq_true, if_false, dSeq, dNext, dIfS, dRet, dRetN, dAsg, dDrop, dVar, lk, dC, dCons, dNil, dTup, dLst, dLstM, dFz, dBin, dTest, asB, dChain, dTru, truW, dAnd, dOr, dNot, dAndV, dOrV, dNotV, dNeg, dIf, idxW, dNo, dSo, dCut, dCB, dCall, dCall0, int0, intW, isiW, put, gdName, gdSub, gdTup, gdCons, gdNil, dPar, dPar3, dRaise, EndsR, dLc, dLcM, iSeq, iTupD, iLst, iZipD, iEnumD, iRg1, iRg2, iStrD, wipeR, wipeR.unput, dFor, lenW, sqW, lsW, allW, anyW, sumW, tupCW, lstCW, lstCMW, absW, intCW, strCW, eqW, neW, isNonW, notNonW, nonB, addW, addMW, mulLW, inW, cutW, dRev, dAppC, dPop, dLRg1, dLRg2, dSplitC, dJoinC, dIsi2, tyN, isi, Option.isSome_some, Option.isSome_none, deref_int, deref_bl, deref_str, deref_non, deref_tup, deref_lst, ok_int, ok_bl, ok_non, peq_int, Bool.not_true, Bool.not_false, decide_eq_true_eq, true_or, or_true, false_or, or_false, false_and, and_false, not_true_eq_false, not_false_eq_true, Bool.not_eq_true', decide_eq_false_iff_not, ex_ins, dFld, dFldS, dMeth, dMeth0, dMake, dProp, dAugO, boolOW, intSW, MO.ins.injEq, bd_frame, bd_every, bd_lots, bd_now, bd_past, bd_put_now, bd_put_past, bd_no_renew, bd_no_undo, bd_length, ini1, ini2, ini3, ini4, ini5, ini_e2, ini_e3, ini_l3, ini_n1, ini_n2, ini_n3, ini_n4]
                rw [List.length_append]
                refine ⟨line_of (by omega), ?_⟩
                have ek : (done.flatMap (kids (ansU L 16 false) colours) ++ kidsTo (ansU L 16 false) z k).map P.str = (done.flatMap (kids (ansU L 16 false) colours) ++ kidsTo (ansU L 16 false) z (k + 1)).map P.str := by
                  rw [kidsTo_succ, if_neg (by rw [eg]; decide), List.append_nil]
                rw [ek]
                exact hnx3 _ _ ⟨k + 1, _, _, ltk, rfl, rfl, rfl⟩
              · show dIf _ _ _ _ _ _
                simp (decide := true) only [startR, exists_and_left, at0, at1, at2, ix30, ix31, ix32, List.set_cons_zero, List.set_cons_succ, Option.some.injEq, MO.lst.injEq, P.int.injEq, P.tup.injEq, P.lst.injEq, exists_eq_left, exists_eq_left', exists_eq, updM_same, updM_updM, reduceCtorEq, List.length_map, List.map_cons, List.map_nil, List.length_cons, List.length_nil, Nat.reduceAdd, Nat.reduceSub, List.replicate_zero, List.replicate_succ, List.cons_append, List.nil_append, List.append_nil, List.append_assoc, Nat.sub_self, true_and, and_true, if_true, Bool.false_eq_true, if_false, dSeq, dNext, dIfS, dRet, dRetN, dAsg, dDrop, dVar, lk, dC, dCons, dNil, dTup, dLst, dLstM, dFz, dBin, dTest, asB, dChain, dTru, truW, dAnd, dOr, dNot, dAndV, dOrV, dNotV, dNeg, dIf, idxW, dNo, dSo, dCut, dCB, dCall, dCall0, int0, intW, isiW, put, gdName, gdSub, gdTup, gdCons, gdNil, dPar, dPar3, dRaise, EndsR, dLc, dLcM, iSeq, iTupD, iLst, iZipD, iEnumD, iRg1, iRg2, iStrD, wipeR, wipeR.unput, dFor, lenW, sqW, lsW, allW, anyW, sumW, tupCW, lstCW, lstCMW, absW, intCW, strCW, eqW, neW, isNonW, notNonW, nonB, addW, addMW, mulLW, inW, cutW, dRev, dAppC, dPop, dLRg1, dLRg2, dSplitC, dJoinC, dIsi2, tyN, isi, Option.isSome_some, Option.isSome_none, deref_int, deref_bl, deref_str, deref_non, deref_tup, deref_lst, ok_int, ok_bl, ok_non, peq_int, Bool.not_true, Bool.not_false, decide_eq_true_eq, true_or, or_true, false_or, or_false, false_and, and_false, not_true_eq_false, not_false_eq_true, Bool.not_eq_true', decide_eq_false_iff_not, ex_ins, dFld, dFldS, dMeth, dMeth0, dMake, dProp, dAugO, boolOW, intSW, MO.ins.injEq, bd_frame, bd_every, bd_lots, bd_now, bd_past, bd_put_now, bd_put_past, bd_no_renew, bd_no_undo, bd_length, ini1, ini2, ini3, ini4, ini5, ini_e2, ini_e3, ini_l3, ini_n1, ini_n2, ini_n3, ini_n4, tupI]
                exact h'
          · obtain ⟨k, t11, t12, hk, ek, rfl, rfl⟩ := hI
            have ek : k = colours := by
              rcases Nat.lt_or_ge k colours with q | q
              · rw [show colours - k = (colours - (k + 1)) + 1 by omega, iota_succ] at ek; cases ek
              · omega
            subst ek
            have efm : done.flatMap (kids (ansU L 16 false) k) ++ kidsTo (ansU L 16 false) z k = (done ++ [z]).flatMap (kids (ansU L 16 false) k) := by
              rw [List.flatMap_append, List.flatMap_cons, List.flatMap_nil, List.append_nil]; rfl
            rw [efm]
            exact hnx2 _ _ ⟨done ++ [z], rest, _, _, _, _, _, _, by rw [eg, List.append_assoc]; rfl, rfl, hM1 _ _ hM, fun j o e => hM1 _ _ (hMo j o e), rfl⟩
      · obtain ⟨done, rest, t7, t8, t9, t10, t11, t12, eg, ey, hM, hMo, rfl⟩ := hI
        cases rest with
        | cons z rest => cases ey
        | nil =>
          rw [List.append_nil] at eg
          simp (decide := true) only [startR, exists_and_left, at0, at1, at2, ix30, ix31, ix32, List.set_cons_zero, List.set_cons_succ, Option.some.injEq, MO.lst.injEq, P.int.injEq, P.tup.injEq, P.lst.injEq, exists_eq_left, exists_eq_left', exists_eq, updM_same, updM_updM, reduceCtorEq, List.length_map, List.map_cons, List.map_nil, List.length_cons, List.length_nil, Nat.reduceAdd, Nat.reduceSub, List.replicate_zero, List.replicate_succ, List.cons_append, List.nil_append, List.append_nil, List.append_assoc, Nat.sub_self, true_and, and_true, if_true, Bool.false_eq_true, if_false, dSeq, dNext, dIfS, dRet, dRetN, dAsg, dDrop, dVar, lk, dC, dCons, dNil, dTup, dLst, dLstM, dFz, dBin, dTest, asB, dChain, dTru, truW, dAnd, dOr, dNot, dAndV, dOrV, dNotV, dNeg, dIf, idxW, dNo, dSo, dCut, dCB, dCall, dCall0, int0, intW, isiW, put, gdName, gdSub, gdTup, gdCons, gdNil, dPar, dPar3, dRaise, EndsR, dLc, dLcM, iSeq, iTupD, iLst, iZipD, iEnumD, iRg1, iRg2, iStrD, wipeR, wipeR.unput, dFor, lenW, sqW, lsW, allW, anyW, sumW, tupCW, lstCW, lstCMW, absW, intCW, strCW, eqW, neW, isNonW, notNonW, nonB, addW, addMW, mulLW, inW, cutW, dRev, dAppC, dPop, dLRg1, dLRg2, dSplitC, dJoinC, dIsi2, tyN, isi, Option.isSome_some, Option.isSome_none, deref_int, deref_bl, deref_str, deref_non, deref_tup, deref_lst, ok_int, ok_bl, ok_non, peq_int, Bool.not_true, Bool.not_false, decide_eq_true_eq, true_or, or_true, false_or, or_false, false_and, and_false, not_true_eq_false, not_false_eq_true, Bool.not_eq_true', decide_eq_false_iff_not, ex_ins, dFld, dFldS, dMeth, dMeth0, dMake, dProp, dAugO, boolOW, intSW, MO.ins.injEq, bd_frame, bd_every, bd_lots, bd_now, bd_past, bd_put_now, bd_put_past, bd_no_renew, bd_no_undo, bd_length, ini1, ini2, ini3, ini4, ini5, ini_e2, ini_e3, ini_l3, ini_n1, ini_n2, ini_n3, ini_n4]
          split
          · exact Lt.of (h _ hMo)
          · rename_i q8
            rw [List.take_of_length_le (by omega)] at eg
            have er : done.flatMap (kids (ansU L 16 false) colours) = rowsOfC (ansU L 16 false) colours (n + 1) := by rw [← eg]; rfl
            rw [er]
            exact hnx _ _ ⟨n + 1, _, _, _, _, _, _, _, _, lt, rfl, hM, hMo, rfl⟩
    · show dIf _ _ _ _ _ _
      simp (decide := true) only [startR, exists_and_left, at0, at1, at2, ix30, ix31, ix32, List.set_cons_zero, List.set_cons_succ, Option.some.injEq, MO.lst.injEq, P.int.injEq, P.tup.injEq, P.lst.injEq, exists_eq_left, exists_eq_left', exists_eq, updM_same, updM_updM, reduceCtorEq, List.length_map, List.map_cons, List.map_nil, List.length_cons, List.length_nil, Nat.reduceAdd, Nat.reduceSub, List.replicate_zero, List.replicate_succ, List.cons_append, List.nil_append, List.append_nil, List.append_assoc, Nat.sub_self, true_and, and_true, if_true, Bool.false_eq_true, if_false, dSeq, dNext, dIfS, dRet, dRetN, dAsg, dDrop, dVar, lk, dC, dCons, dNil, dTup, dLst, dLstM, dFz, dBin, dTest, asB, dChain, dTru, truW, dAnd, dOr, dNot, dAndV, dOrV, dNotV, dNeg, dIf, idxW, dNo, dSo, dCut, dCB, dCall, dCall0, int0, intW, isiW, put, gdName, gdSub, gdTup, gdCons, gdNil, dPar, dPar3, dRaise, EndsR, dLc, dLcM, iSeq, iTupD, iLst, iZipD, iEnumD, iRg1, iRg2, iStrD, wipeR, wipeR.unput, dFor, lenW, sqW, lsW, allW, anyW, sumW, tupCW, lstCW, lstCMW, absW, intCW, strCW, eqW, neW, isNonW, notNonW, nonB, addW, addMW, mulLW, inW, cutW, dRev, dAppC, dPop, dLRg1, dLRg2, dSplitC, dJoinC, dIsi2, tyN, isi, Option.isSome_some, Option.isSome_none, deref_int, deref_bl, deref_str, deref_non, deref_tup, deref_lst, ok_int, ok_bl, ok_non, peq_int, Bool.not_true, Bool.not_false, decide_eq_true_eq, true_or, or_true, false_or, or_false, false_and, and_false, not_true_eq_false, not_false_eq_true, Bool.not_eq_true', decide_eq_false_iff_not, ex_ins, dFld, dFldS, dMeth, dMeth0, dMake, dProp, dAugO, boolOW, intSW, MO.ins.injEq, bd_frame, bd_every, bd_lots, bd_now, bd_past, bd_put_now, bd_put_past, bd_no_renew, bd_no_undo, bd_length, ini1, ini2, ini3, ini4, ini5, ini_e2, ini_e3, ini_l3, ini_n1, ini_n2, ini_n3, ini_n4]
      have okR : okP (.lst ((rowsOfC (ansU L 16 false) colours n).map P.str)) = true := by
        refine ok_lst (fitPs_of fun x hx => ?_) (Nat.le_trans (dpPs_of (n := 0) fun x hx => ?_) (by decide))
        · obtain ⟨z, hz, rfl⟩ := List.mem_map.mp hx
          exact fit_col (col_signs (rows_signs (by omega) n z hz) k4 (by have := rows_len (every := ansU L 16 false) (show colours ≤ 10 by omega) n z hz; omega))
        · obtain ⟨z, hz, rfl⟩ := List.mem_map.mp hx
          exact Nat.le_refl _
      refine ⟨okR, ?_⟩
      rw [peq_nil]
      unfold firstC at h'
      cases q : rowsOfC (ansU L 16 false) colours n with
      | nil =>
        rw [q] at h'
        exact ite_n (by decide) h'
      | cons z rest =>
        rw [q] at h'
        exact ite_y (by rfl) ⟨.str z, atI_nat (j := 0) rfl, h'⟩
  · obtain ⟨n, t5, t6, t7, t8, t9, t10, t11, t12, hn, ex, hM, hMo, rfl⟩ := hI
    simp (decide := true) only [startR, exists_and_left, at0, at1, at2, ix30, ix31, ix32, List.set_cons_zero, List.set_cons_succ, Option.some.injEq, MO.lst.injEq, P.int.injEq, P.tup.injEq, P.lst.injEq, exists_eq_left, exists_eq_left', exists_eq, updM_same, updM_updM, reduceCtorEq, List.length_map, List.map_cons, List.map_nil, List.length_cons, List.length_nil, Nat.reduceAdd, Nat.reduceSub, List.replicate_zero, List.replicate_succ, List.cons_append, List.nil_append, List.append_nil, List.append_assoc, Nat.sub_self, true_and, and_true, if_true, Bool.false_eq_true, if_false, dSeq, dNext, dIfS, dRet, dRetN, dAsg, dDrop, dVar, lk, dC, dCons, dNil, dTup, dLst, dLstM, dFz, dBin, dTest, asB, dChain, dTru, truW, dAnd, dOr, dNot, dAndV, dOrV, dNotV, dNeg, dIf, idxW, dNo, dSo, dCut, dCB, dCall, dCall0, int0, intW, isiW, put, gdName, gdSub, gdTup, gdCons, gdNil, dPar, dPar3, dRaise, EndsR, dLc, dLcM, iSeq, iTupD, iLst, iZipD, iEnumD, iRg1, iRg2, iStrD, wipeR, wipeR.unput, dFor, lenW, sqW, lsW, allW, anyW, sumW, tupCW, lstCW, lstCMW, absW, intCW, strCW, eqW, neW, isNonW, notNonW, nonB, addW, addMW, mulLW, inW, cutW, dRev, dAppC, dPop, dLRg1, dLRg2, dSplitC, dJoinC, dIsi2, tyN, isi, Option.isSome_some, Option.isSome_none, deref_int, deref_bl, deref_str, deref_non, deref_tup, deref_lst, ok_int, ok_bl, ok_non, peq_int, Bool.not_true, Bool.not_false, decide_eq_true_eq, true_or, or_true, false_or, or_false, false_and, and_false, not_true_eq_false, not_false_eq_true, Bool.not_eq_true', decide_eq_false_iff_not, ex_ins, dFld, dFldS, dMeth, dMeth0, dMake, dProp, dAugO, boolOW, intSW, MO.ins.injEq, bd_frame, bd_every, bd_lots, bd_now, bd_past, bd_put_now, bd_put_past, bd_no_renew, bd_no_undo, bd_length, ini1, ini2, ini3, ini4, ini5, ini_e2, ini_e3, ini_l3, ini_n1, ini_n2, ini_n3, ini_n4]
    exact Lt.of (h _ hMo)
  · have hj : j ≠ b := fun z => by rw [z, hb] at e; cases e
    rw [updM_ne hj]; exact e
end
end NC

end
section
set_option Elab.async false
set_option linter.all false
set_option maxRecDepth 100000
set_option maxHeartbeats 4000000
namespace NC
open PySem PySem.Spec PyProof.Rows L2 RZ
section
variable {Pr : Program} {w : World} {K : PySem.W.Frag} {mg : Str → Option Value} {base : Heap}
def kS : List (List Int) := [[1, 1, -1]]
def kW : List (List Int) := [[1, -2, 1]]
def kN : List (List Int) := [[1, 1, -3]]
def kT : List (List Int) := [[1, 1, -1], [1, -1, 0]]
def kV : List (List Int) := [[1, 1, -1, 0, 0], [1, -1, 0, 0, -1]]
def sp_l_known : DSp := fun ds M Φ Ψ => match ds with
  | [] => Φ (.tup [sysP kS, sysP kW, sysP kN, sysP kT, sysP kV]) M
  | _ => False
theorem ok_l_known (T : Top K mg) : Fx Pr w K mg base 1 "_law_known" [] sp_l_known := by
  refine fx_of T.d_l_known sc_l_known (fun _ _ _ _ _ _ us hl => match us, hl with | [], _ => rfl) (fun f cdv A outer s H E Ψ hr tk => ⟨_, (dss_cons (ds_set (i := 0) (fun ht hh => ps_set sc_l_known.nd rfl (by first | exact Or.inl rfl | exact Or.inr rfl) hh) (de_tup (da_cons (de_tup (da_cons de_int (da_cons de_int (da_cons (de_neg de_int) da_nil)))) (da_cons (de_tup (da_cons de_int (da_cons (de_neg de_int) (da_cons de_int da_nil)))) da_nil)))) (dss_one (ds_ret (de_tup (da_cons (de_tup (da_cons (de_tup (da_cons de_int (da_cons de_int (da_cons (de_neg de_int) da_nil)))) da_nil)) (da_cons (de_tup (da_cons (de_tup (da_cons de_int (da_cons (de_neg de_int) (da_cons de_int da_nil)))) da_nil)) (da_cons (de_tup (da_cons (de_tup (da_cons de_int (da_cons de_int (da_cons (de_neg de_int) da_nil)))) da_nil)) (da_cons (de_var (pv 0)) (da_cons (de_tup (da_cons (de_tup (da_cons de_int (da_cons de_int (da_cons (de_neg de_int) (da_cons de_int (da_cons de_int da_nil)))))) (da_cons (de_tup (da_cons de_int (da_cons (de_neg de_int) (da_cons de_int (da_cons de_int (da_cons (de_neg de_int) da_nil)))))) da_nil))) da_nil))))))))), ?_⟩)
  intro ds M Φ hn h
  match ds, h with
  | [], h =>
    have h := Lt.of h
    simp (decide := true) only [startR, exists_and_left, at0, at1, at2, ix30, ix31, ix32, List.set_cons_zero, List.set_cons_succ, Option.some.injEq, MO.lst.injEq, P.int.injEq, P.tup.injEq, P.lst.injEq, exists_eq_left, exists_eq_left', exists_eq, updM_same, updM_updM, reduceCtorEq, List.length_map, List.map_cons, List.map_nil, List.length_cons, List.length_nil, Nat.reduceAdd, Nat.reduceSub, List.replicate_zero, List.replicate_succ, List.cons_append, List.nil_append, List.append_nil, List.append_assoc, Nat.sub_self, true_and, and_true, if_true, Bool.false_eq_true, if_false, dSeq, dNext, dIfS, dRet, dRetN, dAsg, dDrop, dVar, lk, dC, dCons, dNil, dTup, dLst, dLstM, dFz, dBin, dTest, asB, dChain, dTru, truW, dAnd, dOr, dNot, dAndV, dOrV, dNotV, dNeg, dIf, idxW, dNo, dSo, dCut, dCB, dCall, dCall0, int0, intW, isiW, put, gdName, gdSub, gdTup, gdCons, gdNil, dPar, dPar3, dRaise, EndsR, dLc, dLcM, iSeq, iTupD, iLst, iZipD, iEnumD, iRg1, iRg2, iStrD, wipeR, wipeR.unput, dFor, lenW, sqW, lsW, allW, anyW, sumW, tupCW, lstCW, lstCMW, absW, intCW, strCW, eqW, neW, isNonW, notNonW, nonB, addW, addMW, mulLW, inW, cutW, dRev, dAppC, dPop, dLRg1, dLRg2, dSplitC, dJoinC, dIsi2, tyN, isi, Option.isSome_some, Option.isSome_none, deref_int, deref_bl, deref_str, deref_non, deref_tup, deref_lst, ok_int, ok_bl, ok_non, peq_int, Bool.not_true, Bool.not_false, decide_eq_true_eq, true_or, or_true, false_or, or_false, false_and, and_false, not_true_eq_false, not_false_eq_true, Bool.not_eq_true', decide_eq_false_iff_not, ex_ins, dFld, dFldS, dMeth, dMeth0, dMake, dProp, dAugO, boolOW, intSW, MO.ins.injEq, bd_frame, bd_every, bd_lots, bd_now, bd_past, bd_put_now, bd_put_past, bd_no_renew, bd_no_undo, bd_length, ini1, ini2, ini3, ini4, ini5, ini_e2, ini_e3, ini_l3, ini_n1, ini_n2, ini_n3, ini_n4]
    exact h
end
end NC

end
section
set_option Elab.async false
set_option linter.all false
set_option maxRecDepth 100000
set_option maxHeartbeats 4000000
namespace NC
open PySem PySem.Spec PyProof.Rows L2 RZ
section
variable {Pr : Program} {w : World} {K : PySem.W.Frag} {mg : Str → Option Value} {base : Heap}
def sp_l_pick : DSp := fun ds M Φ Ψ => match ds with
  | [.ref k, .int n] => (0 < n ∧ n < 2 ^ 200) ∧ ∃ m, m ≤ 1000000000 ∧ Deck M k m ∧ ∀ r M1, 0 ≤ r → r < n → Drawn M k (m + 1) M1 → Φ (.int r) M1
  | _ => False
theorem ok_l_pick (T : Top K mg) : Fx Pr w K mg base 1 "_law_pick" ["deck", "size"] sp_l_pick := by
  refine fx_of T.d_l_pick sc_l_pick (fun _ _ _ _ _ _ us hl => match us, hl with | [_, _], _ => rfl) (fun f cdv A outer s H E Ψ hr tk => ⟨_, (dss_cons (ds_if (dt_cmp opd_gt (de_idx (de_var (pv 0)) de_int) de_int (nomark _)) (dss_cons (ds_set (i := 2) (fun ht hh => ps_set sc_l_pick.nd rfl (by first | exact Or.inl rfl | exact Or.inr rfl) hh) (de_bin opd_mod (de_callT cd_int rfl T.m_int (by decide +kernel) (da_cons (de_idx (de_var (pv 0)) de_int) da_nil)) (de_var (pv 1)))) (dss_cons (ds_asg (de_bin opd_fdiv (de_idx (de_var (pv 0)) de_int) (de_var (pv 1))) (dg_sub (de_var (pv 0)) de_int)) (dss_one (ds_ret (de_var (pv 2)))))) dss_nil) (dss_cons (ds_asg (de_bin opd_add (de_idx (de_var (pv 0)) de_int) de_int) (dg_sub (de_var (pv 0)) de_int)) (dss_cons (ds_set (i := 3) (fun ht hh => ps_set sc_l_pick.nd rfl (by first | exact Or.inl rfl | exact Or.inr rfl) hh) (de_bin opd_mod (de_bin opd_pow (de_bin opd_add (de_idx (de_var (pv 0)) de_int) (de_bin opd_mulI de_int (de_idx (de_var (pv 0)) de_int))) de_int) de_int)) (dss_cons (ds_set (i := 2) (fun ht hh => ps_set sc_l_pick.nd rfl (by first | exact Or.inl rfl | exact Or.inr rfl) hh) (de_bin opd_fdiv (de_bin opd_mod (de_bin opd_pow (de_bin opd_add (de_var (pv 3)) (de_bin opd_mulI de_int (de_idx (de_var (pv 0)) de_int))) de_int) de_int) de_int)) (dss_one (ds_ret (de_bin opd_mod (de_callT cd_int rfl T.m_int (by decide +kernel) (da_cons (de_var (pv 2)) da_nil)) (de_var (pv 1))))))))), ?_⟩)
  intro ds M Φ hn h
  match ds, h with
  | [.ref k, .int n], ⟨⟨h0, h1⟩, m, hm, d, h⟩ =>
    obtain ⟨a, b, c, e, ha, hb, hb2, hc, hc2⟩ := d
    simp (decide := true) only [startR, exists_and_left, at0, at1, at2, ix30, ix31, ix32, List.set_cons_zero, List.set_cons_succ, Option.some.injEq, MO.lst.injEq, P.int.injEq, P.tup.injEq, P.lst.injEq, exists_eq_left, exists_eq_left', exists_eq, updM_same, updM_updM, reduceCtorEq, List.length_map, List.map_cons, List.map_nil, List.length_cons, List.length_nil, Nat.reduceAdd, Nat.reduceSub, List.replicate_zero, List.replicate_succ, List.cons_append, List.nil_append, List.append_nil, List.append_assoc, Nat.sub_self, true_and, and_true, if_true, Bool.false_eq_true, if_false, dSeq, dNext, dIfS, dRet, dRetN, dAsg, dDrop, dVar, lk, dC, dCons, dNil, dTup, dLst, dLstM, dFz, dBin, dTest, asB, dChain, dTru, truW, dAnd, dOr, dNot, dAndV, dOrV, dNotV, dNeg, dIf, idxW, dNo, dSo, dCut, dCB, dCall, dCall0, int0, intW, isiW, put, gdName, gdSub, gdTup, gdCons, gdNil, dPar, dPar3, dRaise, EndsR, dLc, dLcM, iSeq, iTupD, iLst, iZipD, iEnumD, iRg1, iRg2, iStrD, wipeR, wipeR.unput, dFor, lenW, sqW, lsW, allW, anyW, sumW, tupCW, lstCW, lstCMW, absW, intCW, strCW, eqW, neW, isNonW, notNonW, nonB, addW, addMW, mulLW, inW, cutW, dRev, dAppC, dPop, dLRg1, dLRg2, dSplitC, dJoinC, dIsi2, tyN, isi, Option.isSome_some, Option.isSome_none, deref_int, deref_bl, deref_str, deref_non, deref_tup, deref_lst, ok_int, ok_bl, ok_non, peq_int, Bool.not_true, Bool.not_false, decide_eq_true_eq, true_or, or_true, false_or, or_false, false_and, and_false, not_true_eq_false, not_false_eq_true, Bool.not_eq_true', decide_eq_false_iff_not, ex_ins, dFld, dFldS, dMeth, dMeth0, dMake, dProp, dAugO, boolOW, intSW, MO.ins.injEq, bd_frame, bd_every, bd_lots, bd_now, bd_past, bd_put_now, bd_put_past, bd_no_renew, bd_no_undo, bd_length, ini1, ini2, ini3, ini4, ini5, ini_e2, ini_e3, ini_l3, ini_n1, ini_n2, ini_n3, ini_n4, e]
    have k1 := Int.emod_nonneg
    split
    · rename_i q
      refine ⟨h0, divOk h0 h1, Lt.of (h _ _ (Int.emod_nonneg _ (by omega)) (Int.emod_lt_of_pos _ h0) ⟨⟨_, _, _, updM_same, Int.ediv_nonneg ha (by omega), hb, hb2, hc, by omega⟩, fun j hj => updM_ne hj⟩)⟩
    · rename_i q
      refine ⟨mulOk (by omega) (by omega) (by omega) (by omega), powOk (by omega) (by omega) (by decide) (by decide), mulOk (by omega) (by omega) (by omega) (by omega), ?_, divOk (by decide) (by decide), h0, ?_⟩
      · generalize (b + 15485867 * (c + 1)) ^ Int.toNat 5 = u
        have u1 := Int.emod_nonneg u (show (2147483647 : Int) ≠ 0 by decide)
        have u2 := Int.emod_lt_of_pos u (show (0 : Int) < 2147483647 by decide)
        exact powOk (by omega) (by omega) (by decide) (by decide)
      · exact Lt.of (h _ _ (Int.emod_nonneg _ (by omega)) (Int.emod_lt_of_pos _ h0) ⟨⟨_, _, _, updM_same, ha, hb, hb2, by omega, by omega⟩, fun j hj => updM_ne hj⟩)
end
end NC

end
section
set_option Elab.async false
set_option linter.all false
set_option maxRecDepth 100000
set_option maxHeartbeats 4000000
namespace NC
open PySem PySem.Spec PyProof.Rows L2 RZ
section
variable {Pr : Program} {w : World} {K : PySem.W.Frag} {mg : Str → Option Value} {base : Heap}
def sp_l_system : DSp := fun ds M Φ Ψ => ∃ (k : Addr) (wide high : Int) (m : Nat), ds = [.ref k, .int wide, .int high] ∧ 1 ≤ wide ∧ wide ≤ 6 ∧ 1 ≤ high ∧ high ≤ 3 ∧ m ≤ 900000000 ∧ Deck M k m ∧ ∀ L M1, SysOk L → cols L ≤ wide → L.length ≤ high → Drawn M k (m + 100) M1 → Φ (sysP L) M1
theorem ok_l_system (T : Top K mg) : Fx Pr w K mg base 2 "_law_system" ["deck", "wide", "high"] sp_l_system := by
  refine fx_of T.d_l_system sc_l_system (fun _ _ _ _ _ _ us hl => match us, hl with | [_, _, _], _ => rfl) (fun f cdv A outer s H E Ψ hr tk => ⟨_, (dss_cons (ds_par3 (i := 1) (j := 2) (m := 3) (fun ht hh => ps_par3 rfl sc_l_system.nd rfl rfl rfl (by decide) (by decide) (by decide) rfl rfl rfl hh (by rfl)) (da_cons (de_bin opd_add de_int (de_callF (ok_l_pick T) (hr.mono (by decide)) rfl tk (da_cons (de_var (pv 0)) (da_cons (de_var (pv 1)) da_nil)))) (da_cons (de_bin opd_add de_int (de_callF (ok_l_pick T) (hr.mono (by decide)) rfl tk (da_cons (de_var (pv 0)) (da_cons (de_var (pv 2)) da_nil)))) (da_cons (de_callF (ok_l_pick T) (hr.mono (by decide)) rfl tk (da_cons (de_var (pv 0)) (da_cons de_int da_nil))) da_nil)))) (dss_cons (ds_set (i := 4) (fun ht hh => ps_set sc_l_system.nd rfl (by first | exact Or.inl rfl | exact Or.inr rfl) hh) (de_if (dt_cmp (opd_eq hr.units) (de_var (pv 3)) de_int (nomark _)) de_int de_int)) (dss_cons (ds_set (i := 5) (fun ht hh => ps_set sc_l_system.nd rfl (by first | exact Or.inl rfl | exact Or.inr rfl) hh) (de_lstM da_nil)) (dss_cons (ds_for (passes_of rfl) rfl (di_rg1 rfl T.m_range (da_cons (de_var (pv 2)) da_nil)) (dg_name (pg_name (i := 6) sc_l_system.nd rfl (by first | exact Or.inl rfl | exact Or.inr rfl))) (dss_cons (ds_setLcM (own := [("column", 9)]) (i := 7) rfl sc_l_system.nd rfl rfl (sw_true rfl rfl rfl (by decide +kernel)) (di_rg1 rfl T.m_range (da_cons (de_var (pv 1)) da_nil)) (blkOk_by (sc := defScope s_l_system) (own := [("column", 9)]) (N := ["deck", "wide", "high", "way", "most", "lines", "turn", "line", "last", "column"]) (by decide +kernel)) (fun _ _ _ _ _ => (dgc_name (pg_name (i := 9) sc_l_system.nd rfl (by first | exact Or.inl rfl | exact Or.inr rfl)) (by decide))) (fun _ _ _ _ _ => dts_nil) (fun _ _ _ _ _ => (de_bin opd_sub (de_callF (ok_l_pick T) (hr.mono (by decide)) rfl takesN (da_cons (de_var (pv 0)) (da_cons (de_bin opd_add (de_bin opd_mulI de_int (de_var (pv 4))) de_int) da_nil))) (de_var (pv 4))))) (dss_cons (ds_if (DW.dt (dw_and (dt_cmp (opd_eq hr.units) (de_var (pv 3)) de_int (nomark _)) (dw_and1 (dt_cmp opd_gt (de_var (pv 1)) de_int (nomark _))))) (dss_cons (ds_set (i := 8) (fun ht hh => ps_set sc_l_system.nd rfl (by first | exact Or.inl rfl | exact Or.inr rfl) hh) (de_callB (cd_sum rfl) rfl T.m_sum (by decide +kernel) (da_cons (de_cut (de_var (pv 7)) do_none (do_some (de_neg de_int))) da_nil))) (dss_one (ds_asg (de_if (dt_cmp opd_lt (de_callB cd_abs rfl T.m_abs (by decide +kernel) (da_cons (de_var (pv 8)) da_nil)) de_int (nomark _)) (de_neg (de_var (pv 8))) (de_idx (de_var (pv 7)) (de_neg de_int))) (dg_sub (de_var (pv 7)) (de_neg de_int))))) dss_nil) (dss_one (ds_expr (de_append (de_var (pv 5)) (de_callT cd_tuple rfl T.m_tuple (by decide +kernel) (da_cons (de_var (pv 7)) da_nil)))))))) (dss_one (ds_ret (de_callT cd_tuple rfl T.m_tuple (by decide +kernel) (da_cons (de_var (pv 5)) da_nil)))))))), ?_⟩)
  intro ds M Φ hn h
  obtain ⟨k, wide, high, m, rfl, w1, w2, h1, h2, hm, dk, h⟩ := h
  simp (decide := true) only [startR, exists_and_left, at0, at1, at2, ix30, ix31, ix32, List.set_cons_zero, List.set_cons_succ, Option.some.injEq, MO.lst.injEq, P.int.injEq, P.tup.injEq, P.lst.injEq, exists_eq_left, exists_eq_left', exists_eq, updM_same, updM_updM, reduceCtorEq, List.length_map, List.map_cons, List.map_nil, List.length_cons, List.length_nil, Nat.reduceAdd, Nat.reduceSub, List.replicate_zero, List.replicate_succ, List.cons_append, List.nil_append, List.append_nil, List.append_assoc, Nat.sub_self, true_and, and_true, if_true, Bool.false_eq_true, if_false, dSeq, dNext, dIfS, dRet, dRetN, dAsg, dDrop, dVar, lk, dC, dCons, dNil, dTup, dLst, dLstM, dFz, dBin, dTest, asB, dChain, dTru, truW, dAnd, dOr, dNot, dAndV, dOrV, dNotV, dNeg, dIf, idxW, dNo, dSo, dCut, dCB, dCall, dCall0, int0, intW, isiW, put, gdName, gdSub, gdTup, gdCons, gdNil, dPar, dPar3, dRaise, EndsR, dLc, dLcM, iSeq, iTupD, iLst, iZipD, iEnumD, iRg1, iRg2, iStrD, wipeR, wipeR.unput, dFor, lenW, sqW, lsW, allW, anyW, sumW, tupCW, lstCW, lstCMW, absW, intCW, strCW, eqW, neW, isNonW, notNonW, nonB, addW, addMW, mulLW, inW, cutW, dRev, dAppC, dPop, dLRg1, dLRg2, dSplitC, dJoinC, dIsi2, tyN, isi, Option.isSome_some, Option.isSome_none, deref_int, deref_bl, deref_str, deref_non, deref_tup, deref_lst, ok_int, ok_bl, ok_non, peq_int, Bool.not_true, Bool.not_false, decide_eq_true_eq, true_or, or_true, false_or, or_false, false_and, and_false, not_true_eq_false, not_false_eq_true, Bool.not_eq_true', decide_eq_false_iff_not, ex_ins, dFld, dFldS, dMeth, dMeth0, dMake, dProp, dAugO, boolOW, intSW, MO.ins.injEq, bd_frame, bd_every, bd_lots, bd_now, bd_past, bd_put_now, bd_put_past, bd_no_renew, bd_no_undo, bd_length, ini1, ini2, ini3, ini4, ini5, ini_e2, ini_e3, ini_l3, ini_n1, ini_n2, ini_n3, ini_n4, sp_l_pick]
  refine ⟨⟨by omega, by omega⟩, m, by omega, dk, fun r M1 r0 r1 d1 => ⟨⟨by omega, by omega⟩, m + 1, by omega, d1.d, fun u M2 u0 u1 d2 => ⟨m + 1 + 1, by omega, d2.d, fun y M3 y0 y1 d3 => ?_⟩⟩⟩
  have d3 : Drawn M k (m + 1 + 1 + 1) M3 := (d1.trans d2).trans d3
  split
  all_goals
    intro a ha
    have hka : k ≠ a := fun z => by
      obtain ⟨o, ho⟩ := d3.d.some
      rw [z, ha] at ho; cases ho
    have hMa : M a = none := by rw [← d3.o a (Ne.symm hka)]; exact ha
    refine ⟨⟨by omega, by omega⟩, for_gen (fun xs ρ M' => ∃ (L : List (List Int)) (most : Int) (t6 t7 t8 t9 : Option P), ρ = [some (P.ref k), some (P.int (1 + r)), some (P.int (1 + u)), some (P.int y), some (P.int most), some (P.ref a), t6, t7, t8, t9] ∧ (most = 9 ∨ most = 2) ∧
      L.length + xs.length = (1 + u).toNat ∧ (∀ l ∈ L, l.length = (1 + r).toNat ∧ ∀ x ∈ l, -9 ≤ x ∧ x ≤ 9) ∧ M' a = some (.lst (L.map tupI)) ∧ Kept M k (m + 3 + 20 * L.length) M') (fun x xs ρ M' nx hI hnx => ?_) (fun ρ M' hI => ?_) _ _ _ ?_⟩
    · obtain ⟨L, most, t6, t7, t8, t9, rfl, hmo, hl, hL, ea, kp⟩ := hI
      rw [List.length_cons] at hl
      have fin : ∀ (l : List Int) (M4 : Mm) (b : Addr) (t8 t9 : Option P), l.length = (1 + r).toNat → (∀ x ∈ l, -9 ≤ x ∧ x ≤ 9) → M4 b = none → M4 a = some (.lst (L.map tupI)) → Kept M k (m + 3 + 20 * (L.length + 1)) M4 →
          (∃ xs, updM M4 b (.lst (l.map P.int)) a = some (.lst xs)) ∧ ∃ xs, updM M4 b (.lst (l.map P.int)) a = some (.lst xs) ∧ xs.length < sizeLine ∧
            nx [some (P.ref k), some (P.int (1 + r)), some (P.int (1 + u)), some (P.int y), some (P.int most), some (P.ref a), some x, some (P.ref b), t8, t9] (updM (updM M4 b (.lst (l.map P.int))) a (.lst (xs ++ [.tup (l.map P.int)]))) := fun l M4 b t8 t9 g1 g2 g3 g4 g5 => by
        have e : updM M4 b (.lst (l.map P.int)) a = some (.lst (L.map tupI)) := by rw [updM_ne (ne_addr g4 g3)]; exact g4
        refine ⟨⟨_, e⟩, _, e, by rw [List.length_map]; exact line_of (by omega), hnx _ _ ⟨L ++ [l], most, _, _, _, _, rfl, hmo, ?_, fun l' hl' => ?_, ?_, ?_⟩⟩
        · rw [List.length_append]; simp only [List.length_cons, List.length_nil]; omega
        · rcases List.mem_append.mp hl' with q | q
          · exact hL l' q
          · rw [List.mem_singleton.mp q]; exact ⟨g1, g2⟩
        · rw [List.map_append]; exact updM_same
        · rw [List.length_append]
          exact (g5.new g3).wr hMa hka
      simp (decide := true) only [startR, exists_and_left, at0, at1, at2, ix30, ix31, ix32, List.set_cons_zero, List.set_cons_succ, Option.some.injEq, MO.lst.injEq, P.int.injEq, P.tup.injEq, P.lst.injEq, exists_eq_left, exists_eq_left', exists_eq, updM_same, updM_updM, reduceCtorEq, List.length_map, List.map_cons, List.map_nil, List.length_cons, List.length_nil, Nat.reduceAdd, Nat.reduceSub, List.replicate_zero, List.replicate_succ, List.cons_append, List.nil_append, List.append_nil, List.append_assoc, Nat.sub_self, true_and, and_true, if_true, Bool.false_eq_true, if_false, dSeq, dNext, dIfS, dRet, dRetN, dAsg, dDrop, dVar, lk, dC, dCons, dNil, dTup, dLst, dLstM, dFz, dBin, dTest, asB, dChain, dTru, truW, dAnd, dOr, dNot, dAndV, dOrV, dNotV, dNeg, dIf, idxW, dNo, dSo, dCut, dCB, dCall, dCall0, int0, intW, isiW, put, gdName, gdSub, gdTup, gdCons, gdNil, dPar, dPar3, dRaise, EndsR, dLc, dLcM, iSeq, iTupD, iLst, iZipD, iEnumD, iRg1, iRg2, iStrD, wipeR, wipeR.unput, dFor, lenW, sqW, lsW, allW, anyW, sumW, tupCW, lstCW, lstCMW, absW, intCW, strCW, eqW, neW, isNonW, notNonW, nonB, addW, addMW, mulLW, inW, cutW, dRev, dAppC, dPop, dLRg1, dLRg2, dSplitC, dJoinC, dIsi2, tyN, isi, Option.isSome_some, Option.isSome_none, deref_int, deref_bl, deref_str, deref_non, deref_tup, deref_lst, ok_int, ok_bl, ok_non, peq_int, Bool.not_true, Bool.not_false, decide_eq_true_eq, true_or, or_true, false_or, or_false, false_and, and_false, not_true_eq_false, not_false_eq_true, Bool.not_eq_true', decide_eq_false_iff_not, ex_ins, dFld, dFldS, dMeth, dMeth0, dMake, dProp, dAugO, boolOW, intSW, MO.ins.injEq, bd_frame, bd_every, bd_lots, bd_now, bd_past, bd_put_now, bd_put_past, bd_no_renew, bd_no_undo, bd_length, ini1, ini2, ini3, ini4, ini5, ini_e2, ini_e3, ini_l3, ini_n1, ini_n2, ini_n3, ini_n4]
      refine ⟨⟨by omega, by omega⟩, line_of (by rw [iota_length]; omega), lc_gen (fun todo acc M4 => ∃ l : List Int, acc = l.map P.int ∧ l.length + todo.length = (1 + r).toNat ∧ (∀ x ∈ l, -9 ≤ x ∧ x ≤ 9) ∧ M4 a = some (.lst (L.map tupI)) ∧ Kept M k (m + 3 + 20 * L.length + l.length) M4) (fun z zs acc M4 kk kk0 hI hk hk0 => ?_) (fun acc M4 hI => ?_) _ _ _ ⟨[], rfl, by rw [iota_length]; simp, (fun _ h => nomatch h), ea, kp.mono (by simp)⟩⟩
      · obtain ⟨l, rfl, g1, g2, g3, g4⟩ := hI
        rw [List.length_cons] at g1
        simp (decide := true) only [startR, exists_and_left, at0, at1, at2, ix30, ix31, ix32, List.set_cons_zero, List.set_cons_succ, Option.some.injEq, MO.lst.injEq, P.int.injEq, P.tup.injEq, P.lst.injEq, exists_eq_left, exists_eq_left', exists_eq, updM_same, updM_updM, reduceCtorEq, List.length_map, List.map_cons, List.map_nil, List.length_cons, List.length_nil, Nat.reduceAdd, Nat.reduceSub, List.replicate_zero, List.replicate_succ, List.cons_append, List.nil_append, List.append_nil, List.append_assoc, Nat.sub_self, true_and, and_true, if_true, Bool.false_eq_true, if_false, dSeq, dNext, dIfS, dRet, dRetN, dAsg, dDrop, dVar, lk, dC, dCons, dNil, dTup, dLst, dLstM, dFz, dBin, dTest, asB, dChain, dTru, truW, dAnd, dOr, dNot, dAndV, dOrV, dNotV, dNeg, dIf, idxW, dNo, dSo, dCut, dCB, dCall, dCall0, int0, intW, isiW, put, gdName, gdSub, gdTup, gdCons, gdNil, dPar, dPar3, dRaise, EndsR, dLc, dLcM, iSeq, iTupD, iLst, iZipD, iEnumD, iRg1, iRg2, iStrD, wipeR, wipeR.unput, dFor, lenW, sqW, lsW, allW, anyW, sumW, tupCW, lstCW, lstCMW, absW, intCW, strCW, eqW, neW, isNonW, notNonW, nonB, addW, addMW, mulLW, inW, cutW, dRev, dAppC, dPop, dLRg1, dLRg2, dSplitC, dJoinC, dIsi2, tyN, isi, Option.isSome_some, Option.isSome_none, deref_int, deref_bl, deref_str, deref_non, deref_tup, deref_lst, ok_int, ok_bl, ok_non, peq_int, Bool.not_true, Bool.not_false, decide_eq_true_eq, true_or, or_true, false_or, or_false, false_and, and_false, not_true_eq_false, not_false_eq_true, Bool.not_eq_true', decide_eq_false_iff_not, ex_ins, dFld, dFldS, dMeth, dMeth0, dMake, dProp, dAugO, boolOW, intSW, MO.ins.injEq, bd_frame, bd_every, bd_lots, bd_now, bd_past, bd_put_now, bd_put_past, bd_no_renew, bd_no_undo, bd_length, ini1, ini2, ini3, ini4, ini5, ini_e2, ini_e3, ini_l3, ini_n1, ini_n2, ini_n3, ini_n4, sp_l_pick]
        refine ⟨mulOk (by decide) (by decide) (by omega) (by omega), ⟨by omega, by omega⟩, _, ?_, g4.d, fun v M5 v0 v1 d5 => hk _ _ ⟨l ++ [v - most], ?_, ?_, fun w hw => ?_, ?_, ?_⟩⟩
        · omega
        · rw [List.map_append]; rfl
        · rw [List.length_append]; simp only [List.length_cons, List.length_nil]; omega
        · rcases List.mem_append.mp hw with q | q
          · exact g2 w q
          · rw [List.mem_singleton.mp q]; omega
        · rw [d5.o a (Ne.symm hka)]; exact g3
        · rw [List.length_append]; exact g4.drawn d5
      · obtain ⟨l, rfl, g1, g2, g3, g4⟩ := hI
        simp only [List.length_nil, Nat.add_zero] at g1
        intro b hb
        have g5 : Kept M k (m + 3 + 20 * (L.length + 1)) M4 := g4.mono (by omega)
        have hl0 : 0 < l.length := by omega
        split
        · split
          · rw [cut_butlast, map_dropLast]
            refine ⟨l.dropLast, rfl, ?_⟩
            by_cases q : (if l.dropLast.sum < 0 then -l.dropLast.sum else l.dropLast.sum) < 10
            · rw [if_pos q]
              refine ⟨l.length - 1, ?_, ?_⟩
              · rw [List.length_map]; exact ixN_neg1 hl0
              · rw [map_set]
                refine fin _ M4 b _ _ (by rw [List.length_set]; exact g1) (fun w hw => ?_) hb g3 g5
                rcases List.mem_or_eq_of_mem_set hw with q2 | q2
                · exact g2 w q2
                · rw [q2]
                  split at q <;> omega
            · rw [if_neg q]
              obtain ⟨v, hv, ev⟩ := atI_neg1 (xs := l.map P.int) (by rw [List.length_map]; exact hl0)
              obtain ⟨v', hv', rfl⟩ := List.mem_map.mp hv
              refine ⟨_, ev, l.length - 1, ?_, ?_⟩
              · rw [List.length_map]; exact ixN_neg1 hl0
              · rw [map_set]
                refine fin _ M4 b _ _ (by rw [List.length_set]; exact g1) (fun w hw => ?_) hb g3 g5
                rcases List.mem_or_eq_of_mem_set hw with q2 | q2
                · exact g2 w q2
                · rw [q2]; exact g2 v' hv'
          · exact fin l M4 b _ _ g1 g2 hb g3 g5
        · exact fin l M4 b _ _ g1 g2 hb g3 g5
    · obtain ⟨L, most, t6, t7, t8, t9, rfl, hmo, hl, hL, ea, kp⟩ := hI
      simp only [List.length_nil, Nat.add_zero] at hl
      simp (decide := true) only [startR, exists_and_left, at0, at1, at2, ix30, ix31, ix32, List.set_cons_zero, List.set_cons_succ, Option.some.injEq, MO.lst.injEq, P.int.injEq, P.tup.injEq, P.lst.injEq, exists_eq_left, exists_eq_left', exists_eq, updM_same, updM_updM, reduceCtorEq, List.length_map, List.map_cons, List.map_nil, List.length_cons, List.length_nil, Nat.reduceAdd, Nat.reduceSub, List.replicate_zero, List.replicate_succ, List.cons_append, List.nil_append, List.append_nil, List.append_assoc, Nat.sub_self, true_and, and_true, if_true, Bool.false_eq_true, if_false, dSeq, dNext, dIfS, dRet, dRetN, dAsg, dDrop, dVar, lk, dC, dCons, dNil, dTup, dLst, dLstM, dFz, dBin, dTest, asB, dChain, dTru, truW, dAnd, dOr, dNot, dAndV, dOrV, dNotV, dNeg, dIf, idxW, dNo, dSo, dCut, dCB, dCall, dCall0, int0, intW, isiW, put, gdName, gdSub, gdTup, gdCons, gdNil, dPar, dPar3, dRaise, EndsR, dLc, dLcM, iSeq, iTupD, iLst, iZipD, iEnumD, iRg1, iRg2, iStrD, wipeR, wipeR.unput, dFor, lenW, sqW, lsW, allW, anyW, sumW, tupCW, lstCW, lstCMW, absW, intCW, strCW, eqW, neW, isNonW, notNonW, nonB, addW, addMW, mulLW, inW, cutW, dRev, dAppC, dPop, dLRg1, dLRg2, dSplitC, dJoinC, dIsi2, tyN, isi, Option.isSome_some, Option.isSome_none, deref_int, deref_bl, deref_str, deref_non, deref_tup, deref_lst, ok_int, ok_bl, ok_non, peq_int, Bool.not_true, Bool.not_false, decide_eq_true_eq, true_or, or_true, false_or, or_false, false_and, and_false, not_true_eq_false, not_false_eq_true, Bool.not_eq_true', decide_eq_false_iff_not, ex_ins, dFld, dFldS, dMeth, dMeth0, dMake, dProp, dAugO, boolOW, intSW, MO.ins.injEq, bd_frame, bd_every, bd_lots, bd_now, bd_past, bd_put_now, bd_put_past, bd_no_renew, bd_no_undo, bd_length, ini1, ini2, ini3, ini4, ini5, ini_e2, ini_e3, ini_l3, ini_n1, ini_n2, ini_n3, ini_n4, ea]
      have hc : cols L = (1 + r).toNat := by
        cases L with
        | nil => simp at hl; omega
        | cons l0 L0 => exact (hL l0 List.mem_cons_self).1
      refine Lt.kept (kp.mono (n2 := m + 100) (by omega)) fun M5 d5 => h L M5 ⟨by omega, by omega, by omega, by omega, fun l q => by rw [(hL l q).1, hc], fun l q => (hL l q).2⟩ (by omega) (by omega) d5
    · exact ⟨[], _, none, none, none, none, rfl, by first | exact Or.inl rfl | exact Or.inr rfl, by rw [iota_length]; simp, (fun _ h => nomatch h), updM_same, ((Drawn.kept d3).mono (by simp)).new ha⟩
end
end NC

end
section
set_option Elab.async false
set_option linter.all false
set_option maxRecDepth 100000
set_option maxHeartbeats 1000000
namespace NC
open PySem PySem.Spec PyProof.Rows L2 RZ
/-- as fnp_of, the def's code object told -/
theorem fnp_ofC {P : Program} {w : World} {K : PySem.W.Frag} {mg : Str → Option Value} {base : Heap} {x qual : Str} {params : Arguments} {body : List Stmt} {scope : Scope} {f : Addr} {fd : FuncData} {N ps : List Str} {k : Nat} {sp : DSp} (F : FunD K x qual params body scope [] [] f fd) (S : FnScope N ps scope)
    (hbody : ∀ (cdv : Value) (A : Around) (outer : List Env) (s : Shared) (H : Hp) (E : XK) (Ψ : XP), fd.code = cdv → Room k (A.deeper (envOfC qual scope s.heap.objs.size f cdv)) → L2N.Takes (cxOf (L2N.CX P w) P w K mg base N qual scope f cdv A outer s H E) (RzOf E Ψ).W →
      ∃ t, DSs (cxOf (L2N.CX P w) P w K mg base N qual scope f cdv A outer s H E) (RzOf E Ψ) body t ∧ ∀ ds M Φ, ds.length = ps.length → sp ds M Φ Ψ → t (EndsR Φ) (startR N ds) M) : FnP P w K mg base (k + 1) f fd ps sp := by
  obtain ⟨oc, od, dV, kV, doc, pm, an, cdv, ct, osl, rfl, lk, hcd, _, _⟩ := F.ex
  refine L2.fn_of (CX := L2N.CX P w) lk hcd S (fun vs H Q E ⟨Z, M, ds, Φ, Ψ, a, b, c, d, e⟩ => by rw [← b.length]; exact c) fun A outer s H vs Q E hr h => ?_
  obtain ⟨Z, M, ds, Φ, Ψ, st, l, hn, hsp, kp, kx⟩ := h
  have tk : L2N.Takes (cxOf (L2N.CX P w) P w K mg base N qual scope f cdv A outer s H E) (RzOf E Ψ).W := L2N.takes_of rfl rfl rfl rfl
  obtain ⟨t, ht, rd⟩ := hbody cdv A outer s H E Ψ rfl hr tk
  obtain ⟨g, p, k1⟩ := ht.ex
  refine ⟨g, p, k1 Z _ H M (startR N ds) (EndsR Φ) _ st (start_env l) (fun cls fs d ρ1 σ1 Z1 M1 H1 s1 r1 e1 x1 q1 => kx cls fs d Z1 M1 H1 s1 r1 x1 q1) ⟨fun ρ1 σ1 Z1 M1 H1 s1 r1 e1 q1 => ?_, fun q v Z1 M1 H1 s1 r1 a1 q1 => ?_, fun ρ1 σ1 Z1 M1 H1 s1 r1 e1 q1 => q1.elim, fun ρ1 σ1 Z1 M1 H1 s1 r1 e1 q1 => q1.elim⟩ (rd ds M Φ hn hsp)⟩
  · obtain ⟨M2, sub, q⟩ := q1
    obtain ⟨s2, r2⟩ := s1.less sub
    exact kp .non .non Z1 M2 H1 s2 (r1.trans r2) rfl q
  · obtain ⟨M2, sub, q⟩ := q1
    obtain ⟨s2, r2⟩ := s1.less sub
    exact kp _ v Z1 M2 H1 s2 (r1.trans r2) a1 q
end NC

end
section
set_option Elab.async false
set_option linter.all false
set_option maxRecDepth 100000
set_option maxHeartbeats 4000000
namespace NC
open PySem PySem.Spec PyProof.Rows L2 RZ
/-! ### [..] + script: the script may be an object of the module -/
/-- a list of the module -/
def KLst (K : PySem.W.Frag) (a : Addr) (xs : List V) : Prop :=
  ∃ (o : Obj) (its : Array Value) (n : Nat), K.lookup a = some o ∧ o.cls = .type "list" ∧ o.dict = none ∧ o.data = .seq its n ∧ its.size ≤ sizeLine ∧ Vals xs its.toList
section
variable {X : Cx} {R : Rz}
def rCatQ (K : PySem.W.Frag) : R2 := fun x y H Q => ∃ l b xs zs, x = .ref l ∧ y = .ref b ∧ SqL K H l xs ∧ SqL K H b zs ∧ xs.length + zs.length ≤ sizeLine ∧ ∀ p, H p = none → Q (.ref p) (upd H p (.lst (xs ++ zs)))
theorem op_catQ : OpR X (binaryOp .Add) (rCatQ X.K) := by
  intro pins s σ H x y v u Q I rx ry h
  obtain ⟨l, b, xs, zs, ex, ey, hl, hb, hz, q⟩ := h
  subst ex ey
  cases rx
  cases ry
  obtain ⟨its, r1, ⟨⟨cls, dd, data, sl⟩, n, ho, hc, hd, hs⟩, z1⟩ := I.list hl
  obtain ⟨its2, r2, ⟨⟨cls2, dd2, data2, sl2⟩, n2, ho2, hc2, hd2, hs2⟩, z2⟩ := I.list hb
  simp only at hc hd hs hc2 hd2 hs2
  subst hc hd hs hc2 hd2 hs2
  have hn := r1.length
  have hn2 := r2.length
  have ea : its.toArray ++ its2.toArray = (its ++ its2).toArray := by simp
  refine PySem.concat_meets ⟨_, ho, rfl⟩ ⟨_, ho2, rfl⟩ PySem.noFill_list_add PySem.seq_list_add PySem.F.slot_list_add PySem.F.entry_list_add (PySem.F.args_list_add_2 _ _) (PyProof.Rows.list_addW l b its.toArray its2.toArray n n2 none none sl sl2 (by rw [List.size_toArray, List.size_toArray, ← hn, ← hn2]; exact hz)) ⟨ho, ho2, ?_⟩
  rw [ea]
  show EP X pins σ Q (Value.ref s.heap.objs.size) _
  exact ⟨.ref _, _, I.lnew (t' := s.toks) (r1.append r2) (by rw [List.length_append]; exact hz), rfl, q _ I.fresh⟩
/-- a list, or a list of the module -/
def sqKW (K : PySem.W.Frag) (p : P) (M : Mm) (k : List P → Prop) : Prop := lsW p M k ∨ ∃ (a : Addr) (ns : List Int), p = .ref a ∧ KLst K a (ns.map V.int) ∧ k (ns.map P.int)
def addKW (K : PySem.W.Frag) : W2 := fun p q M Φ => lsW p M fun xs => sqKW K q M fun ys => xs.length + ys.length ≤ sizeLine ∧ Φ (.lst (xs ++ ys)) M
theorem opd_addK : OpD X (binaryOp .Add) (addKW X.K) := by
  refine ⟨_, op_catQ, fun Z M H p q x y Φ Q s a b t k => ?_⟩
  obtain ⟨xs, c, vs, t1, ex, h1, l1⟩ := ls_of s a t
  have key : ∃ ys d ws, (xs.length + ys.length ≤ sizeLine ∧ Φ (.lst (xs ++ ys)) M) ∧ y = .ref d ∧ SqL X.K H d ws ∧ IsL X.K Z ys ws := by
    rcases t1 with t1 | ⟨d, ns, rfl, hk, t2⟩
    · obtain ⟨ys, d, ws, t2, ey, h2, l2⟩ := ls_of s b t1
      exact ⟨ys, d, ws, t2, ey, .inl h2, l2⟩
    · exact ⟨_, d, _, t2, b, .inr hk, IsL.of_ints⟩
  obtain ⟨ys, d, ws, t2, ey, h2, l2⟩ := key
  refine ⟨c, d, vs, ws, ex, ey, .inl h1, h2, by rw [← l1.length, ← l2.length]; exact t2.1, fun p hp => ?_⟩
  obtain ⟨s2, r2⟩ := s.frz (o := .lst (vs ++ ws)) hp
  exact k (.lst (xs ++ ys)) _ _ M _ s2 r2 ⟨p, vs ++ ws, rfl, .inl upd_same, (l1.append l2).mono r2.z⟩ t2.2
end
theorem addK_at {K : PySem.W.Frag} {p : P} {ns : List Int} {M : Mm} {Φ : P → Mm → Prop} (hp : p = .lst (ns.map P.int) ∨ ∃ a : Addr, p = .ref a ∧ KLst K a (ns.map V.int)) (hl : 1 + ns.length ≤ sizeLine) (k : Φ (.lst ([.int 0] ++ ns.map P.int)) M) : addKW K (.lst [.int 0]) p M Φ := by
  have hz : ([P.int 0] : List P).length + (ns.map P.int).length ≤ sizeLine := by rw [List.length_map]; exact hl
  rcases hp with rfl | ⟨a, rfl, hk⟩
  · exact .inl ⟨hz, k⟩
  · exact .inr ⟨a, ns, rfl, hk, hz, k⟩
end NC

end
section
set_option Elab.async false
set_option linter.all false
set_option maxRecDepth 100000
set_option maxHeartbeats 4000000
namespace NC
open PySem PySem.Spec PyProof.Rows L2 RZ
section
variable {Pr : Program} {w : World} {K : PySem.W.Frag} {mg : Str → Option Value} {base : Heap}
--IMPORT NcY
--IMPORT NcSq
--IMPORT NcBe
def sp_law : DSp := fun ds M Φ Ψ => ∃ (p : P) (ns : List Int), ds = [p] ∧ (p = .lst (ns.map P.int) ∨ ∃ a : Addr, p = .ref a ∧ KLst K a (ns.map V.int)) ∧ ns.length ≤ 63 ∧ ∀ M1, Φ (.bl true) M1
theorem pick_k {k : Addr} {n : Int} {M : Mm} {Φ : P → Mm → Prop} {Ψ : XP} (m : Nat) (h0 : 0 < n) (h1 : n < 2 ^ 200) (hm : m ≤ 1000000000) (d : Deck M k m) (h : ∀ (r : Nat) M1, (r : Int) < n → Drawn M k (m + 1) M1 → Φ (.int r) M1) : sp_l_pick [.ref k, .int n] M Φ Ψ := by
  refine ⟨⟨h0, h1⟩, m, hm, d, fun r M1 r0 r1 d1 => ?_⟩
  obtain ⟨j, rfl⟩ : ∃ j : Nat, r = j := ⟨r.toNat, by omega⟩
  exact h j M1 r1 d1
theorem sysOk_of {L : List (List Int)} (h : isSys (sysP L) = true) : SysOk L := by
  obtain ⟨L', e, so⟩ := isSys_of h
  have inj : ∀ {a b : List (List Int)}, sysP a = sysP b → a = b := fun {a b} e => by
    have e1 : a.map tupI = b.map tupI := P.tup.inj e
    have := congrArg (List.map fun p => match p with | .tup xs => xs.map intOf | _ => []) e1
    rw [List.map_map, List.map_map] at this
    have z : ∀ l : List (List Int), l.map ((fun p => match p with | .tup xs => xs.map intOf | _ => []) ∘ tupI) = l := fun l => List.map_id'' (fun x => ints_int x) l
    rw [z, z] at this
    exact this
  rw [inj e]; exact so
theorem go_grown {K : PySem.W.Frag} {M : Mm} {Φ : P → Mm → Prop} {Ψ : XP} {S : P} {c m : Int} (L : List (List Int)) (colours many : Nat) (eS : S = sysP L) (ec : c = colours) (em : m = many) (so : SysOk L) (c3 : cols L ≤ 3) (k1 : 1 ≤ colours) (k4 : colours ≤ 4) (hm : many ≤ 8) (h : ∀ M1, (∀ j o, M j = some o → M1 j = some o) → Φ (.bl true) M1) : sp_l_grown_right K [S, .int c, .int m] M Φ Ψ := by
  subst eS ec em
  exact ⟨L, colours, many, rfl, so, c3, k1, k4, hm, h⟩
theorem free1 : freeL (ansU kS 16 false) (Str.ofString "011") = [0, 2, 3] := by decide +kernel
theorem free2 : freeL (ansU kS 16 false) (Str.ofString "0110") = [2, 3] := by decide +kernel
theorem ok_law (T : Top K mg) {f : Addr} {fd : FuncData} (F : FunD K "law" "law" (defArgs s_law) (defBody s_law) (defScope s_law) [] [] f fd) : FnP PR w K mg base 30 f fd ["script"] (sp_law (K := K)) := by
  refine fnp_of F sc_law (fun cdv A outer s H E Ψ hr tk => ⟨_, (dss_cons (ds_for (passes_of rfl) rfl (di_seq (de_cut (de_bin opd_addK (de_lst (da_cons de_int da_nil)) (de_var (pv 0))) do_none (do_some de_int))) (dg_name (pg_name (i := 1) sc_law.nd rfl (by first | exact Or.inl rfl | exact Or.inr rfl))) (dss_cons (ds_set (i := 2) (fun ht hh => ps_set sc_law.nd rfl (by first | exact Or.inl rfl | exact Or.inr rfl) hh) (de_callF (ok_l_deck T) (hr.mono (by decide)) rfl tk (da_cons (de_var (pv 1)) (da_cons de_int da_nil)))) (dss_cons (ds_set (i := 3) (fun ht hh => ps_set sc_law.nd rfl (by first | exact Or.inl rfl | exact Or.inr rfl) hh) (de_callF (ok_l_system T) (hr.mono (by decide)) rfl tk (da_cons (de_var (pv 2)) (da_cons de_int (da_cons de_int da_nil))))) (dss_one (ds_if (dt_not (dt_tru (de_callF (ok_l_grown_right T) (hr.mono (by decide)) rfl tk (da_cons (de_var (pv 3)) (da_cons (de_bin opd_add de_int (de_callF (ok_l_pick T) (hr.mono (by decide)) rfl tk (da_cons (de_var (pv 2)) (da_cons de_int da_nil)))) (da_cons (de_bin opd_add de_int (de_callF (ok_l_pick T) (hr.mono (by decide)) rfl tk (da_cons (de_var (pv 2)) (da_cons de_int da_nil)))) da_nil)))))) (dss_one (ds_ret de_bl)) dss_nil))))) (dss_cons (ds_asg (de_callF0 (ok_l_known T) (hr.mono (by decide)) rfl) (dg_tup (n := 5) rfl (dgs_cons (dg_name (pg_name (i := 4) sc_law.nd rfl (by first | exact Or.inl rfl | exact Or.inr rfl))) (dgs_cons (dg_name (pg_name (i := 5) sc_law.nd rfl (by first | exact Or.inl rfl | exact Or.inr rfl))) (dgs_cons (dg_name (pg_name (i := 6) sc_law.nd rfl (by first | exact Or.inl rfl | exact Or.inr rfl))) (dgs_cons (dg_name (pg_name (i := 7) sc_law.nd rfl (by first | exact Or.inl rfl | exact Or.inr rfl))) (dgs_cons (dg_name (pg_name (i := 8) sc_law.nd rfl (by first | exact Or.inl rfl | exact Or.inr rfl))) dgs_nil))))))) (dss_cons (ds_if (DW.dt (dw_or (dt_not (dt_tru (de_callF (ok_l_grown_right T) (hr.mono (by decide)) rfl tk (da_cons (de_var (pv 4)) (da_cons de_int (da_cons de_int da_nil)))))) (dw_or (dt_not (dt_tru (de_callF (ok_l_grown_right T) (hr.mono (by decide)) rfl tk (da_cons (de_var (pv 6)) (da_cons de_int (da_cons de_int da_nil)))))) (dw_or1 (dt_not (dt_tru (de_callF (ok_l_grown_right T) (hr.mono (by decide)) rfl tk (da_cons (de_var (pv 7)) (da_cons de_int (da_cons de_int da_nil)))))))))) (dss_one (ds_ret de_bl)) dss_nil) (dss_cons (ds_set (i := 9) (fun ht hh => ps_set sc_law.nd rfl (by first | exact Or.inl rfl | exact Or.inr rfl) hh) (de_make (ok_Board___init__ T) (hr.mono (by decide)) rfl T.g_Board (da_cons (de_var (pv 4)) da_nil))) (dss_one (ds_ret (de_cmp (opd_eq hr.units) (de_lc (own := [("text", 10)]) rfl sc_law.nd (di_seq (de_tup (da_cons de_str (da_cons de_str da_nil)))) (blkOk_by (sc := defScope s_law) (own := [("text", 10)]) (N := ["script", "cell", "deck", "system_so", "s", "w", "n", "t", "v", "board", "text"]) (by decide +kernel)) (fun _ _ _ _ _ => (dgc_name (pg_name (i := 10) sc_law.nd rfl (by first | exact Or.inl rfl | exact Or.inr rfl)) (by decide))) (fun _ _ _ _ _ => dts_nil) (fun _ _ _ _ _ => (de_idx (de_callF (ok_l_on_board T) (hr.mono (by decide)) rfl takesN (da_cons (de_var (pv 9)) (da_cons (de_var (pv 10)) da_nil))) de_int))) (de_lst (da_cons (de_lst (da_cons de_int (da_cons de_int (da_cons de_int da_nil)))) (da_cons (de_lst (da_cons de_int (da_cons de_int da_nil))) da_nil))) (nomark _)))))))), ?_⟩)
  intro ds M Φ hn h
  obtain ⟨p, ns, rfl, hp, hl, h⟩ := h
  simp (decide := true) only [startR, exists_and_left, at0, at1, at2, ix30, ix31, ix32, List.set_cons_zero, List.set_cons_succ, Option.some.injEq, MO.lst.injEq, P.int.injEq, P.tup.injEq, P.lst.injEq, exists_eq_left, exists_eq_left', exists_eq, updM_same, updM_updM, reduceCtorEq, List.length_map, List.map_cons, List.map_nil, List.length_cons, List.length_nil, Nat.reduceAdd, Nat.reduceSub, List.replicate_zero, List.replicate_succ, List.cons_append, List.nil_append, List.append_nil, List.append_assoc, Nat.sub_self, true_and, and_true, if_true, Bool.false_eq_true, if_false, dSeq, dNext, dIfS, dRet, dRetN, dAsg, dDrop, dVar, lk, dC, dCons, dNil, dTup, dLst, dLstM, dFz, dBin, dTest, asB, dChain, dTru, truW, dAnd, dOr, dNot, dAndV, dOrV, dNotV, dNeg, dIf, idxW, dNo, dSo, dCut, dCB, dCall, dCall0, int0, intW, isiW, put, gdName, gdSub, gdTup, gdCons, gdNil, dPar, dPar3, dRaise, EndsR, dLc, dLcM, iSeq, iTupD, iLst, iZipD, iEnumD, iRg1, iRg2, iStrD, wipeR, wipeR.unput, dFor, lenW, sqW, lsW, allW, anyW, sumW, tupCW, lstCW, lstCMW, absW, intCW, strCW, eqW, neW, isNonW, notNonW, nonB, addW, addMW, mulLW, inW, cutW, dRev, dAppC, dPop, dLRg1, dLRg2, dSplitC, dJoinC, dIsi2, tyN, isi, Option.isSome_some, Option.isSome_none, deref_int, deref_bl, deref_str, deref_non, deref_tup, deref_lst, ok_int, ok_bl, ok_non, peq_int, Bool.not_true, Bool.not_false, decide_eq_true_eq, true_or, or_true, false_or, or_false, false_and, and_false, not_true_eq_false, not_false_eq_true, Bool.not_eq_true', decide_eq_false_iff_not, ex_ins, dFld, dFldS, dMeth, dMeth0, dMake, dProp, dAugO, boolOW, intSW, MO.ins.injEq, bd_frame, bd_every, bd_lots, bd_now, bd_past, bd_put_now, bd_put_past, bd_no_renew, bd_no_undo, bd_length, ini1, ini2, ini3, ini4, ini5, ini_e2, ini_e3, ini_l3, ini_n1, ini_n2, ini_n3, ini_n4]
  refine addK_at hp (line_of (by omega)) ?_
  simp (decide := true) only [startR, exists_and_left, at0, at1, at2, ix30, ix31, ix32, List.set_cons_zero, List.set_cons_succ, Option.some.injEq, MO.lst.injEq, P.int.injEq, P.tup.injEq, P.lst.injEq, exists_eq_left, exists_eq_left', exists_eq, updM_same, updM_updM, reduceCtorEq, List.length_map, List.map_cons, List.map_nil, List.length_cons, List.length_nil, Nat.reduceAdd, Nat.reduceSub, List.replicate_zero, List.replicate_succ, List.cons_append, List.nil_append, List.append_nil, List.append_assoc, Nat.sub_self, true_and, and_true, if_true, Bool.false_eq_true, if_false, dSeq, dNext, dIfS, dRet, dRetN, dAsg, dDrop, dVar, lk, dC, dCons, dNil, dTup, dLst, dLstM, dFz, dBin, dTest, asB, dChain, dTru, truW, dAnd, dOr, dNot, dAndV, dOrV, dNotV, dNeg, dIf, idxW, dNo, dSo, dCut, dCB, dCall, dCall0, int0, intW, isiW, put, gdName, gdSub, gdTup, gdCons, gdNil, dPar, dPar3, dRaise, EndsR, dLc, dLcM, iSeq, iTupD, iLst, iZipD, iEnumD, iRg1, iRg2, iStrD, wipeR, wipeR.unput, dFor, lenW, sqW, lsW, allW, anyW, sumW, tupCW, lstCW, lstCMW, absW, intCW, strCW, eqW, neW, isNonW, notNonW, nonB, addW, addMW, mulLW, inW, cutW, dRev, dAppC, dPop, dLRg1, dLRg2, dSplitC, dJoinC, dIsi2, tyN, isi, Option.isSome_some, Option.isSome_none, deref_int, deref_bl, deref_str, deref_non, deref_tup, deref_lst, ok_int, ok_bl, ok_non, peq_int, Bool.not_true, Bool.not_false, decide_eq_true_eq, true_or, or_true, false_or, or_false, false_and, and_false, not_true_eq_false, not_false_eq_true, Bool.not_eq_true', decide_eq_false_iff_not, ex_ins, dFld, dFldS, dMeth, dMeth0, dMake, dProp, dAugO, boolOW, intSW, MO.ins.injEq, bd_frame, bd_every, bd_lots, bd_now, bd_past, bd_put_now, bd_put_past, bd_no_renew, bd_no_undo, bd_length, ini1, ini2, ini3, ini4, ini5, ini_e2, ini_e3, ini_l3, ini_n1, ini_n2, ini_n3, ini_n4]
  refine for_gen (fun xs ρ M' => (∃ ks : List Int, xs = ks.map P.int) ∧ ∃ t1 t2 t3 t4 t5 t6 t7 t8 t9 t10 : Option P, ρ = [some p, t1, t2, t3, t4, t5, t6, t7, t8, t9, t10]) (fun x xs ρ M' nx hI hnx => ?_) (fun ρ M' hI => ?_) _ _ _ ?_
  · obtain ⟨⟨ks, ek⟩, t1, t2, t3, t4, t5, t6, t7, t8, t9, t10, rfl⟩ := hI
    cases ks with
    | nil => cases ek
    | cons cc ks =>
      rw [List.map_cons] at ek
      obtain ⟨rfl, rfl⟩ := List.cons.inj ek
      simp (decide := true) only [startR, exists_and_left, at0, at1, at2, ix30, ix31, ix32, List.set_cons_zero, List.set_cons_succ, Option.some.injEq, MO.lst.injEq, P.int.injEq, P.tup.injEq, P.lst.injEq, exists_eq_left, exists_eq_left', exists_eq, updM_same, updM_updM, reduceCtorEq, List.length_map, List.map_cons, List.map_nil, List.length_cons, List.length_nil, Nat.reduceAdd, Nat.reduceSub, List.replicate_zero, List.replicate_succ, List.cons_append, List.nil_append, List.append_nil, List.append_assoc, Nat.sub_self, true_and, and_true, if_true, Bool.false_eq_true, if_false, dSeq, dNext, dIfS, dRet, dRetN, dAsg, dDrop, dVar, lk, dC, dCons, dNil, dTup, dLst, dLstM, dFz, dBin, dTest, asB, dChain, dTru, truW, dAnd, dOr, dNot, dAndV, dOrV, dNotV, dNeg, dIf, idxW, dNo, dSo, dCut, dCB, dCall, dCall0, int0, intW, isiW, put, gdName, gdSub, gdTup, gdCons, gdNil, dPar, dPar3, dRaise, EndsR, dLc, dLcM, iSeq, iTupD, iLst, iZipD, iEnumD, iRg1, iRg2, iStrD, wipeR, wipeR.unput, dFor, lenW, sqW, lsW, allW, anyW, sumW, tupCW, lstCW, lstCMW, absW, intCW, strCW, eqW, neW, isNonW, notNonW, nonB, addW, addMW, mulLW, inW, cutW, dRev, dAppC, dPop, dLRg1, dLRg2, dSplitC, dJoinC, dIsi2, tyN, isi, Option.isSome_some, Option.isSome_none, deref_int, deref_bl, deref_str, deref_non, deref_tup, deref_lst, ok_int, ok_bl, ok_non, peq_int, Bool.not_true, Bool.not_false, decide_eq_true_eq, true_or, or_true, false_or, or_false, false_and, and_false, not_true_eq_false, not_false_eq_true, Bool.not_eq_true', decide_eq_false_iff_not, ex_ins, dFld, dFldS, dMeth, dMeth0, dMake, dProp, dAugO, boolOW, intSW, MO.ins.injEq, bd_frame, bd_every, bd_lots, bd_now, bd_past, bd_put_now, bd_put_past, bd_no_renew, bd_no_undo, bd_length, ini1, ini2, ini3, ini4, ini5, ini_e2, ini_e3, ini_l3, ini_n1, ini_n2, ini_n3, ini_n4, sp_l_deck]
      intro a M1 ha d1
      refine ⟨a, 3, 2, _, rfl, by decide, by decide, by decide, by decide, by omega, d1.d, fun L M3 so c4 r2 d3 => ?_⟩
      simp (decide := true) only [startR, exists_and_left, at0, at1, at2, ix30, ix31, ix32, List.set_cons_zero, List.set_cons_succ, Option.some.injEq, MO.lst.injEq, P.int.injEq, P.tup.injEq, P.lst.injEq, exists_eq_left, exists_eq_left', exists_eq, updM_same, updM_updM, reduceCtorEq, List.length_map, List.map_cons, List.map_nil, List.length_cons, List.length_nil, Nat.reduceAdd, Nat.reduceSub, List.replicate_zero, List.replicate_succ, List.cons_append, List.nil_append, List.append_nil, List.append_assoc, Nat.sub_self, true_and, and_true, if_true, Bool.false_eq_true, if_false, dSeq, dNext, dIfS, dRet, dRetN, dAsg, dDrop, dVar, lk, dC, dCons, dNil, dTup, dLst, dLstM, dFz, dBin, dTest, asB, dChain, dTru, truW, dAnd, dOr, dNot, dAndV, dOrV, dNotV, dNeg, dIf, idxW, dNo, dSo, dCut, dCB, dCall, dCall0, int0, intW, isiW, put, gdName, gdSub, gdTup, gdCons, gdNil, dPar, dPar3, dRaise, EndsR, dLc, dLcM, iSeq, iTupD, iLst, iZipD, iEnumD, iRg1, iRg2, iStrD, wipeR, wipeR.unput, dFor, lenW, sqW, lsW, allW, anyW, sumW, tupCW, lstCW, lstCMW, absW, intCW, strCW, eqW, neW, isNonW, notNonW, nonB, addW, addMW, mulLW, inW, cutW, dRev, dAppC, dPop, dLRg1, dLRg2, dSplitC, dJoinC, dIsi2, tyN, isi, Option.isSome_some, Option.isSome_none, deref_int, deref_bl, deref_str, deref_non, deref_tup, deref_lst, ok_int, ok_bl, ok_non, peq_int, Bool.not_true, Bool.not_false, decide_eq_true_eq, true_or, or_true, false_or, or_false, false_and, and_false, not_true_eq_false, not_false_eq_true, Bool.not_eq_true', decide_eq_false_iff_not, ex_ins, dFld, dFldS, dMeth, dMeth0, dMake, dProp, dAugO, boolOW, intSW, MO.ins.injEq, bd_frame, bd_every, bd_lots, bd_now, bd_past, bd_put_now, bd_put_past, bd_no_renew, bd_no_undo, bd_length, ini1, ini2, ini3, ini4, ini5, ini_e2, ini_e3, ini_l3, ini_n1, ini_n2, ini_n3, ini_n4]
      refine pick_k _ (by decide) (by decide) (by omega) d3.d (fun r M4 r1 d4 => ?_)
      simp (decide := true) only [startR, exists_and_left, at0, at1, at2, ix30, ix31, ix32, List.set_cons_zero, List.set_cons_succ, Option.some.injEq, MO.lst.injEq, P.int.injEq, P.tup.injEq, P.lst.injEq, exists_eq_left, exists_eq_left', exists_eq, updM_same, updM_updM, reduceCtorEq, List.length_map, List.map_cons, List.map_nil, List.length_cons, List.length_nil, Nat.reduceAdd, Nat.reduceSub, List.replicate_zero, List.replicate_succ, List.cons_append, List.nil_append, List.append_nil, List.append_assoc, Nat.sub_self, true_and, and_true, if_true, Bool.false_eq_true, if_false, dSeq, dNext, dIfS, dRet, dRetN, dAsg, dDrop, dVar, lk, dC, dCons, dNil, dTup, dLst, dLstM, dFz, dBin, dTest, asB, dChain, dTru, truW, dAnd, dOr, dNot, dAndV, dOrV, dNotV, dNeg, dIf, idxW, dNo, dSo, dCut, dCB, dCall, dCall0, int0, intW, isiW, put, gdName, gdSub, gdTup, gdCons, gdNil, dPar, dPar3, dRaise, EndsR, dLc, dLcM, iSeq, iTupD, iLst, iZipD, iEnumD, iRg1, iRg2, iStrD, wipeR, wipeR.unput, dFor, lenW, sqW, lsW, allW, anyW, sumW, tupCW, lstCW, lstCMW, absW, intCW, strCW, eqW, neW, isNonW, notNonW, nonB, addW, addMW, mulLW, inW, cutW, dRev, dAppC, dPop, dLRg1, dLRg2, dSplitC, dJoinC, dIsi2, tyN, isi, Option.isSome_some, Option.isSome_none, deref_int, deref_bl, deref_str, deref_non, deref_tup, deref_lst, ok_int, ok_bl, ok_non, peq_int, Bool.not_true, Bool.not_false, decide_eq_true_eq, true_or, or_true, false_or, or_false, false_and, and_false, not_true_eq_false, not_false_eq_true, Bool.not_eq_true', decide_eq_false_iff_not, ex_ins, dFld, dFldS, dMeth, dMeth0, dMake, dProp, dAugO, boolOW, intSW, MO.ins.injEq, bd_frame, bd_every, bd_lots, bd_now, bd_past, bd_put_now, bd_put_past, bd_no_renew, bd_no_undo, bd_length, ini1, ini2, ini3, ini4, ini5, ini_e2, ini_e3, ini_l3, ini_n1, ini_n2, ini_n3, ini_n4]
      refine pick_k _ (by decide) (by decide) (by omega) d4.d (fun q M5 q1 d5 => ?_)
      simp (decide := true) only [startR, exists_and_left, at0, at1, at2, ix30, ix31, ix32, List.set_cons_zero, List.set_cons_succ, Option.some.injEq, MO.lst.injEq, P.int.injEq, P.tup.injEq, P.lst.injEq, exists_eq_left, exists_eq_left', exists_eq, updM_same, updM_updM, reduceCtorEq, List.length_map, List.map_cons, List.map_nil, List.length_cons, List.length_nil, Nat.reduceAdd, Nat.reduceSub, List.replicate_zero, List.replicate_succ, List.cons_append, List.nil_append, List.append_nil, List.append_assoc, Nat.sub_self, true_and, and_true, if_true, Bool.false_eq_true, if_false, dSeq, dNext, dIfS, dRet, dRetN, dAsg, dDrop, dVar, lk, dC, dCons, dNil, dTup, dLst, dLstM, dFz, dBin, dTest, asB, dChain, dTru, truW, dAnd, dOr, dNot, dAndV, dOrV, dNotV, dNeg, dIf, idxW, dNo, dSo, dCut, dCB, dCall, dCall0, int0, intW, isiW, put, gdName, gdSub, gdTup, gdCons, gdNil, dPar, dPar3, dRaise, EndsR, dLc, dLcM, iSeq, iTupD, iLst, iZipD, iEnumD, iRg1, iRg2, iStrD, wipeR, wipeR.unput, dFor, lenW, sqW, lsW, allW, anyW, sumW, tupCW, lstCW, lstCMW, absW, intCW, strCW, eqW, neW, isNonW, notNonW, nonB, addW, addMW, mulLW, inW, cutW, dRev, dAppC, dPop, dLRg1, dLRg2, dSplitC, dJoinC, dIsi2, tyN, isi, Option.isSome_some, Option.isSome_none, deref_int, deref_bl, deref_str, deref_non, deref_tup, deref_lst, ok_int, ok_bl, ok_non, peq_int, Bool.not_true, Bool.not_false, decide_eq_true_eq, true_or, or_true, false_or, or_false, false_and, and_false, not_true_eq_false, not_false_eq_true, Bool.not_eq_true', decide_eq_false_iff_not, ex_ins, dFld, dFldS, dMeth, dMeth0, dMake, dProp, dAugO, boolOW, intSW, MO.ins.injEq, bd_frame, bd_every, bd_lots, bd_now, bd_past, bd_put_now, bd_put_past, bd_no_renew, bd_no_undo, bd_length, ini1, ini2, ini3, ini4, ini5, ini_e2, ini_e3, ini_l3, ini_n1, ini_n2, ini_n3, ini_n4]
      refine go_grown L (2 + r) (1 + q) rfl (by rw [Int.natCast_add]; rfl) (by rw [Int.natCast_add]; rfl) so (by omega) (by omega) (by omega) (by omega) (fun M6 _ => ?_)
      simp (decide := true) only [startR, exists_and_left, at0, at1, at2, ix30, ix31, ix32, List.set_cons_zero, List.set_cons_succ, Option.some.injEq, MO.lst.injEq, P.int.injEq, P.tup.injEq, P.lst.injEq, exists_eq_left, exists_eq_left', exists_eq, updM_same, updM_updM, reduceCtorEq, List.length_map, List.map_cons, List.map_nil, List.length_cons, List.length_nil, Nat.reduceAdd, Nat.reduceSub, List.replicate_zero, List.replicate_succ, List.cons_append, List.nil_append, List.append_nil, List.append_assoc, Nat.sub_self, true_and, and_true, if_true, Bool.false_eq_true, if_false, dSeq, dNext, dIfS, dRet, dRetN, dAsg, dDrop, dVar, lk, dC, dCons, dNil, dTup, dLst, dLstM, dFz, dBin, dTest, asB, dChain, dTru, truW, dAnd, dOr, dNot, dAndV, dOrV, dNotV, dNeg, dIf, idxW, dNo, dSo, dCut, dCB, dCall, dCall0, int0, intW, isiW, put, gdName, gdSub, gdTup, gdCons, gdNil, dPar, dPar3, dRaise, EndsR, dLc, dLcM, iSeq, iTupD, iLst, iZipD, iEnumD, iRg1, iRg2, iStrD, wipeR, wipeR.unput, dFor, lenW, sqW, lsW, allW, anyW, sumW, tupCW, lstCW, lstCMW, absW, intCW, strCW, eqW, neW, isNonW, notNonW, nonB, addW, addMW, mulLW, inW, cutW, dRev, dAppC, dPop, dLRg1, dLRg2, dSplitC, dJoinC, dIsi2, tyN, isi, Option.isSome_some, Option.isSome_none, deref_int, deref_bl, deref_str, deref_non, deref_tup, deref_lst, ok_int, ok_bl, ok_non, peq_int, Bool.not_true, Bool.not_false, decide_eq_true_eq, true_or, or_true, false_or, or_false, false_and, and_false, not_true_eq_false, not_false_eq_true, Bool.not_eq_true', decide_eq_false_iff_not, ex_ins, dFld, dFldS, dMeth, dMeth0, dMake, dProp, dAugO, boolOW, intSW, MO.ins.injEq, bd_frame, bd_every, bd_lots, bd_now, bd_past, bd_put_now, bd_put_past, bd_no_renew, bd_no_undo, bd_length, ini1, ini2, ini3, ini4, ini5, ini_e2, ini_e3, ini_l3, ini_n1, ini_n2, ini_n3, ini_n4]
      exact hnx _ _ ⟨⟨_, rfl⟩, _, _, _, _, _, _, _, _, _, _, rfl⟩
  · obtain ⟨_, t1, t2, t3, t4, t5, t6, t7, t8, t9, t10, rfl⟩ := hI
    simp (decide := true) only [startR, exists_and_left, at0, at1, at2, ix30, ix31, ix32, List.set_cons_zero, List.set_cons_succ, Option.some.injEq, MO.lst.injEq, P.int.injEq, P.tup.injEq, P.lst.injEq, exists_eq_left, exists_eq_left', exists_eq, updM_same, updM_updM, reduceCtorEq, List.length_map, List.map_cons, List.map_nil, List.length_cons, List.length_nil, Nat.reduceAdd, Nat.reduceSub, List.replicate_zero, List.replicate_succ, List.cons_append, List.nil_append, List.append_nil, List.append_assoc, Nat.sub_self, true_and, and_true, if_true, Bool.false_eq_true, if_false, dSeq, dNext, dIfS, dRet, dRetN, dAsg, dDrop, dVar, lk, dC, dCons, dNil, dTup, dLst, dLstM, dFz, dBin, dTest, asB, dChain, dTru, truW, dAnd, dOr, dNot, dAndV, dOrV, dNotV, dNeg, dIf, idxW, dNo, dSo, dCut, dCB, dCall, dCall0, int0, intW, isiW, put, gdName, gdSub, gdTup, gdCons, gdNil, dPar, dPar3, dRaise, EndsR, dLc, dLcM, iSeq, iTupD, iLst, iZipD, iEnumD, iRg1, iRg2, iStrD, wipeR, wipeR.unput, dFor, lenW, sqW, lsW, allW, anyW, sumW, tupCW, lstCW, lstCMW, absW, intCW, strCW, eqW, neW, isNonW, notNonW, nonB, addW, addMW, mulLW, inW, cutW, dRev, dAppC, dPop, dLRg1, dLRg2, dSplitC, dJoinC, dIsi2, tyN, isi, Option.isSome_some, Option.isSome_none, deref_int, deref_bl, deref_str, deref_non, deref_tup, deref_lst, ok_int, ok_bl, ok_non, peq_int, Bool.not_true, Bool.not_false, decide_eq_true_eq, true_or, or_true, false_or, or_false, false_and, and_false, not_true_eq_false, not_false_eq_true, Bool.not_eq_true', decide_eq_false_iff_not, ex_ins, dFld, dFldS, dMeth, dMeth0, dMake, dProp, dAugO, boolOW, intSW, MO.ins.injEq, bd_frame, bd_every, bd_lots, bd_now, bd_past, bd_put_now, bd_put_past, bd_no_renew, bd_no_undo, bd_length, ini1, ini2, ini3, ini4, ini5, ini_e2, ini_e3, ini_l3, ini_n1, ini_n2, ini_n3, ini_n4, sp_l_known]
    have soS : SysOk kS := sysOk_of (by decide +kernel)
    have soN : SysOk kN := sysOk_of (by decide +kernel)
    have soT : SysOk kT := sysOk_of (by decide +kernel)
    refine go_grown kS 2 5 rfl rfl rfl soS (by decide) (by decide) (by decide) (by decide) (fun M1 _ => ?_)
    simp (decide := true) only [startR, exists_and_left, at0, at1, at2, ix30, ix31, ix32, List.set_cons_zero, List.set_cons_succ, Option.some.injEq, MO.lst.injEq, P.int.injEq, P.tup.injEq, P.lst.injEq, exists_eq_left, exists_eq_left', exists_eq, updM_same, updM_updM, reduceCtorEq, List.length_map, List.map_cons, List.map_nil, List.length_cons, List.length_nil, Nat.reduceAdd, Nat.reduceSub, List.replicate_zero, List.replicate_succ, List.cons_append, List.nil_append, List.append_nil, List.append_assoc, Nat.sub_self, true_and, and_true, if_true, Bool.false_eq_true, if_false, dSeq, dNext, dIfS, dRet, dRetN, dAsg, dDrop, dVar, lk, dC, dCons, dNil, dTup, dLst, dLstM, dFz, dBin, dTest, asB, dChain, dTru, truW, dAnd, dOr, dNot, dAndV, dOrV, dNotV, dNeg, dIf, idxW, dNo, dSo, dCut, dCB, dCall, dCall0, int0, intW, isiW, put, gdName, gdSub, gdTup, gdCons, gdNil, dPar, dPar3, dRaise, EndsR, dLc, dLcM, iSeq, iTupD, iLst, iZipD, iEnumD, iRg1, iRg2, iStrD, wipeR, wipeR.unput, dFor, lenW, sqW, lsW, allW, anyW, sumW, tupCW, lstCW, lstCMW, absW, intCW, strCW, eqW, neW, isNonW, notNonW, nonB, addW, addMW, mulLW, inW, cutW, dRev, dAppC, dPop, dLRg1, dLRg2, dSplitC, dJoinC, dIsi2, tyN, isi, Option.isSome_some, Option.isSome_none, deref_int, deref_bl, deref_str, deref_non, deref_tup, deref_lst, ok_int, ok_bl, ok_non, peq_int, Bool.not_true, Bool.not_false, decide_eq_true_eq, true_or, or_true, false_or, or_false, false_and, and_false, not_true_eq_false, not_false_eq_true, Bool.not_eq_true', decide_eq_false_iff_not, ex_ins, dFld, dFldS, dMeth, dMeth0, dMake, dProp, dAugO, boolOW, intSW, MO.ins.injEq, bd_frame, bd_every, bd_lots, bd_now, bd_past, bd_put_now, bd_put_past, bd_no_renew, bd_no_undo, bd_length, ini1, ini2, ini3, ini4, ini5, ini_e2, ini_e3, ini_l3, ini_n1, ini_n2, ini_n3, ini_n4]
    refine go_grown kN 2 4 rfl rfl rfl soN (by decide) (by decide) (by decide) (by decide) (fun M2 _ => ?_)
    simp (decide := true) only [startR, exists_and_left, at0, at1, at2, ix30, ix31, ix32, List.set_cons_zero, List.set_cons_succ, Option.some.injEq, MO.lst.injEq, P.int.injEq, P.tup.injEq, P.lst.injEq, exists_eq_left, exists_eq_left', exists_eq, updM_same, updM_updM, reduceCtorEq, List.length_map, List.map_cons, List.map_nil, List.length_cons, List.length_nil, Nat.reduceAdd, Nat.reduceSub, List.replicate_zero, List.replicate_succ, List.cons_append, List.nil_append, List.append_nil, List.append_assoc, Nat.sub_self, true_and, and_true, if_true, Bool.false_eq_true, if_false, dSeq, dNext, dIfS, dRet, dRetN, dAsg, dDrop, dVar, lk, dC, dCons, dNil, dTup, dLst, dLstM, dFz, dBin, dTest, asB, dChain, dTru, truW, dAnd, dOr, dNot, dAndV, dOrV, dNotV, dNeg, dIf, idxW, dNo, dSo, dCut, dCB, dCall, dCall0, int0, intW, isiW, put, gdName, gdSub, gdTup, gdCons, gdNil, dPar, dPar3, dRaise, EndsR, dLc, dLcM, iSeq, iTupD, iLst, iZipD, iEnumD, iRg1, iRg2, iStrD, wipeR, wipeR.unput, dFor, lenW, sqW, lsW, allW, anyW, sumW, tupCW, lstCW, lstCMW, absW, intCW, strCW, eqW, neW, isNonW, notNonW, nonB, addW, addMW, mulLW, inW, cutW, dRev, dAppC, dPop, dLRg1, dLRg2, dSplitC, dJoinC, dIsi2, tyN, isi, Option.isSome_some, Option.isSome_none, deref_int, deref_bl, deref_str, deref_non, deref_tup, deref_lst, ok_int, ok_bl, ok_non, peq_int, Bool.not_true, Bool.not_false, decide_eq_true_eq, true_or, or_true, false_or, or_false, false_and, and_false, not_true_eq_false, not_false_eq_true, Bool.not_eq_true', decide_eq_false_iff_not, ex_ins, dFld, dFldS, dMeth, dMeth0, dMake, dProp, dAugO, boolOW, intSW, MO.ins.injEq, bd_frame, bd_every, bd_lots, bd_now, bd_past, bd_put_now, bd_put_past, bd_no_renew, bd_no_undo, bd_length, ini1, ini2, ini3, ini4, ini5, ini_e2, ini_e3, ini_l3, ini_n1, ini_n2, ini_n3, ini_n4]
    refine go_grown kT 3 3 rfl rfl rfl soT (by decide) (by decide) (by decide) (by decide) (fun M3 _ => ?_)
    simp (decide := true) only [startR, exists_and_left, at0, at1, at2, ix30, ix31, ix32, List.set_cons_zero, List.set_cons_succ, Option.some.injEq, MO.lst.injEq, P.int.injEq, P.tup.injEq, P.lst.injEq, exists_eq_left, exists_eq_left', exists_eq, updM_same, updM_updM, reduceCtorEq, List.length_map, List.map_cons, List.map_nil, List.length_cons, List.length_nil, Nat.reduceAdd, Nat.reduceSub, List.replicate_zero, List.replicate_succ, List.cons_append, List.nil_append, List.append_nil, List.append_assoc, Nat.sub_self, true_and, and_true, if_true, Bool.false_eq_true, if_false, dSeq, dNext, dIfS, dRet, dRetN, dAsg, dDrop, dVar, lk, dC, dCons, dNil, dTup, dLst, dLstM, dFz, dBin, dTest, asB, dChain, dTru, truW, dAnd, dOr, dNot, dAndV, dOrV, dNotV, dNeg, dIf, idxW, dNo, dSo, dCut, dCB, dCall, dCall0, int0, intW, isiW, put, gdName, gdSub, gdTup, gdCons, gdNil, dPar, dPar3, dRaise, EndsR, dLc, dLcM, iSeq, iTupD, iLst, iZipD, iEnumD, iRg1, iRg2, iStrD, wipeR, wipeR.unput, dFor, lenW, sqW, lsW, allW, anyW, sumW, tupCW, lstCW, lstCMW, absW, intCW, strCW, eqW, neW, isNonW, notNonW, nonB, addW, addMW, mulLW, inW, cutW, dRev, dAppC, dPop, dLRg1, dLRg2, dSplitC, dJoinC, dIsi2, tyN, isi, Option.isSome_some, Option.isSome_none, deref_int, deref_bl, deref_str, deref_non, deref_tup, deref_lst, ok_int, ok_bl, ok_non, peq_int, Bool.not_true, Bool.not_false, decide_eq_true_eq, true_or, or_true, false_or, or_false, false_and, and_false, not_true_eq_false, not_false_eq_true, Bool.not_eq_true', decide_eq_false_iff_not, ex_ins, dFld, dFldS, dMeth, dMeth0, dMake, dProp, dAugO, boolOW, intSW, MO.ins.injEq, bd_frame, bd_every, bd_lots, bd_now, bd_past, bd_put_now, bd_put_past, bd_no_renew, bd_no_undo, bd_length, ini1, ini2, ini3, ini4, ini5, ini_e2, ini_e3, ini_l3, ini_n1, ini_n2, ini_n3, ini_n4]
    intro b dx hb
    refine ⟨b, dx, kS, rfl, soS, by decide, updM_same, fun lots lo => ⟨rfl, ?_⟩⟩
    simp (decide := true) only [startR, exists_and_left, at0, at1, at2, ix30, ix31, ix32, List.set_cons_zero, List.set_cons_succ, Option.some.injEq, MO.lst.injEq, P.int.injEq, P.tup.injEq, P.lst.injEq, exists_eq_left, exists_eq_left', exists_eq, updM_same, updM_updM, reduceCtorEq, List.length_map, List.map_cons, List.map_nil, List.length_cons, List.length_nil, Nat.reduceAdd, Nat.reduceSub, List.replicate_zero, List.replicate_succ, List.cons_append, List.nil_append, List.append_nil, List.append_assoc, Nat.sub_self, true_and, and_true, if_true, Bool.false_eq_true, if_false, dSeq, dNext, dIfS, dRet, dRetN, dAsg, dDrop, dVar, lk, dC, dCons, dNil, dTup, dLst, dLstM, dFz, dBin, dTest, asB, dChain, dTru, truW, dAnd, dOr, dNot, dAndV, dOrV, dNotV, dNeg, dIf, idxW, dNo, dSo, dCut, dCB, dCall, dCall0, int0, intW, isiW, put, gdName, gdSub, gdTup, gdCons, gdNil, dPar, dPar3, dRaise, EndsR, dLc, dLcM, iSeq, iTupD, iLst, iZipD, iEnumD, iRg1, iRg2, iStrD, wipeR, wipeR.unput, dFor, lenW, sqW, lsW, allW, anyW, sumW, tupCW, lstCW, lstCMW, absW, intCW, strCW, eqW, neW, isNonW, notNonW, nonB, addW, addMW, mulLW, inW, cutW, dRev, dAppC, dPop, dLRg1, dLRg2, dSplitC, dJoinC, dIsi2, tyN, isi, Option.isSome_some, Option.isSome_none, deref_int, deref_bl, deref_str, deref_non, deref_tup, deref_lst, ok_int, ok_bl, ok_non, peq_int, Bool.not_true, Bool.not_false, decide_eq_true_eq, true_or, or_true, false_or, or_false, false_and, and_false, not_true_eq_false, not_false_eq_true, Bool.not_eq_true', decide_eq_false_iff_not, ex_ins, dFld, dFldS, dMeth, dMeth0, dMake, dProp, dAugO, boolOW, intSW, MO.ins.injEq, bd_frame, bd_every, bd_lots, bd_now, bd_past, bd_put_now, bd_put_past, bd_no_renew, bd_no_undo, bd_length, ini1, ini2, ini3, ini4, ini5, ini_e2, ini_e3, ini_l3, ini_n1, ini_n2, ini_n3, ini_n4, lcW, dYes]
    refine ⟨b, dx, kS, lots, Str.ofString "011", rfl, soS, by decide, updM_same, lo, by decide +kernel, by decide +kernel, fun M4 h4 => ?_⟩
    have hM4 : M4 b = some (.ins (He.ga K "Board") dx (bdF kS lots Str.empty [])) := h4 _ _ updM_same
    simp (decide := true) only [startR, exists_and_left, at0, at1, at2, ix30, ix31, ix32, List.set_cons_zero, List.set_cons_succ, Option.some.injEq, MO.lst.injEq, P.int.injEq, P.tup.injEq, P.lst.injEq, exists_eq_left, exists_eq_left', exists_eq, updM_same, updM_updM, reduceCtorEq, List.length_map, List.map_cons, List.map_nil, List.length_cons, List.length_nil, Nat.reduceAdd, Nat.reduceSub, List.replicate_zero, List.replicate_succ, List.cons_append, List.nil_append, List.append_nil, List.append_assoc, Nat.sub_self, true_and, and_true, if_true, Bool.false_eq_true, if_false, dSeq, dNext, dIfS, dRet, dRetN, dAsg, dDrop, dVar, lk, dC, dCons, dNil, dTup, dLst, dLstM, dFz, dBin, dTest, asB, dChain, dTru, truW, dAnd, dOr, dNot, dAndV, dOrV, dNotV, dNeg, dIf, idxW, dNo, dSo, dCut, dCB, dCall, dCall0, int0, intW, isiW, put, gdName, gdSub, gdTup, gdCons, gdNil, dPar, dPar3, dRaise, EndsR, dLc, dLcM, iSeq, iTupD, iLst, iZipD, iEnumD, iRg1, iRg2, iStrD, wipeR, wipeR.unput, dFor, lenW, sqW, lsW, allW, anyW, sumW, tupCW, lstCW, lstCMW, absW, intCW, strCW, eqW, neW, isNonW, notNonW, nonB, addW, addMW, mulLW, inW, cutW, dRev, dAppC, dPop, dLRg1, dLRg2, dSplitC, dJoinC, dIsi2, tyN, isi, Option.isSome_some, Option.isSome_none, deref_int, deref_bl, deref_str, deref_non, deref_tup, deref_lst, ok_int, ok_bl, ok_non, peq_int, Bool.not_true, Bool.not_false, decide_eq_true_eq, true_or, or_true, false_or, or_false, false_and, and_false, not_true_eq_false, not_false_eq_true, Bool.not_eq_true', decide_eq_false_iff_not, ex_ins, dFld, dFldS, dMeth, dMeth0, dMake, dProp, dAugO, boolOW, intSW, MO.ins.injEq, bd_frame, bd_every, bd_lots, bd_now, bd_past, bd_put_now, bd_put_past, bd_no_renew, bd_no_undo, bd_length, ini1, ini2, ini3, ini4, ini5, ini_e2, ini_e3, ini_l3, ini_n1, ini_n2, ini_n3, ini_n4, free1]
    refine ⟨b, dx, kS, lots, Str.ofString "0110", rfl, soS, by decide, hM4, lo, by decide +kernel, by decide +kernel, fun M5 h5 => ?_⟩
    simp (decide := true) only [startR, exists_and_left, at0, at1, at2, ix30, ix31, ix32, List.set_cons_zero, List.set_cons_succ, Option.some.injEq, MO.lst.injEq, P.int.injEq, P.tup.injEq, P.lst.injEq, exists_eq_left, exists_eq_left', exists_eq, updM_same, updM_updM, reduceCtorEq, List.length_map, List.map_cons, List.map_nil, List.length_cons, List.length_nil, Nat.reduceAdd, Nat.reduceSub, List.replicate_zero, List.replicate_succ, List.cons_append, List.nil_append, List.append_nil, List.append_assoc, Nat.sub_self, true_and, and_true, if_true, Bool.false_eq_true, if_false, dSeq, dNext, dIfS, dRet, dRetN, dAsg, dDrop, dVar, lk, dC, dCons, dNil, dTup, dLst, dLstM, dFz, dBin, dTest, asB, dChain, dTru, truW, dAnd, dOr, dNot, dAndV, dOrV, dNotV, dNeg, dIf, idxW, dNo, dSo, dCut, dCB, dCall, dCall0, int0, intW, isiW, put, gdName, gdSub, gdTup, gdCons, gdNil, dPar, dPar3, dRaise, EndsR, dLc, dLcM, iSeq, iTupD, iLst, iZipD, iEnumD, iRg1, iRg2, iStrD, wipeR, wipeR.unput, dFor, lenW, sqW, lsW, allW, anyW, sumW, tupCW, lstCW, lstCMW, absW, intCW, strCW, eqW, neW, isNonW, notNonW, nonB, addW, addMW, mulLW, inW, cutW, dRev, dAppC, dPop, dLRg1, dLRg2, dSplitC, dJoinC, dIsi2, tyN, isi, Option.isSome_some, Option.isSome_none, deref_int, deref_bl, deref_str, deref_non, deref_tup, deref_lst, ok_int, ok_bl, ok_non, peq_int, Bool.not_true, Bool.not_false, decide_eq_true_eq, true_or, or_true, false_or, or_false, false_and, and_false, not_true_eq_false, not_false_eq_true, Bool.not_eq_true', decide_eq_false_iff_not, ex_ins, dFld, dFldS, dMeth, dMeth0, dMake, dProp, dAugO, boolOW, intSW, MO.ins.injEq, bd_frame, bd_every, bd_lots, bd_now, bd_past, bd_put_now, bd_put_past, bd_no_renew, bd_no_undo, bd_length, ini1, ini2, ini3, ini4, ini5, ini_e2, ini_e3, ini_l3, ini_n1, ini_n2, ini_n3, ini_n4, free2]
    have e : peq (.lst [.lst [.int (0 : Nat), .int (2 : Nat), .int (3 : Nat)], .lst [.int (2 : Nat), .int (3 : Nat)]]) (.lst [.lst [.int 0, .int 2, .int 3], .lst [.int 2, .int 3]]) = true := by simp [peq, peqs]
    rw [e]
    exact Lt.of (h _)
  · have e1 : ∃ ks : List Int, cutL ([P.int 0] ++ ns.map P.int) none (some 3) = ks.map P.int := by
      show ∃ ks : List Int, cutL ((0 :: ns).map P.int) none (some 3) = ks.map P.int
      unfold cutL
      exact ⟨((0 :: ns).drop _).take _, by rw [← List.map_drop, ← List.map_take]⟩
    exact ⟨e1, _, _, _, _, _, _, _, _, _, _, rfl⟩


end
end NC

end
section
set_option Elab.async false
set_option linter.all false
set_option maxRecDepth 100000
set_option maxHeartbeats 0
namespace NC
open PySem PySem.Spec PyProof.Rows L2 RZ
def fa0 : List He.Fa := [.free "ValueError", .free "abs", .free "all", .free "bool", .free "enumerate", .free "int", .free "isinstance", .free "len", .free "list", .free "max", .free "range", .free "set", .free "sorted", .free "str", .free "sum", .free "super", .free "tuple", .free "zip", .int "MOST_EQUATIONS" 3, .int "MOST_COLUMNS_systems" 6, .int "MOST_ENTRY" 9, .int "MOST_SIGNS" 16, .int "MOST_COLUMNS_colourings" 4, .int "MOST_COUNTED" 9, .int "MOST_COLOURS" 4, .int "MOST_CALLS" 40, .glo "ColourError", .glo "InvalidSystem", .exc "InvalidSystem", .glo "InvalidNumber"]
def fa1 : List He.Fa := [.exc "InvalidNumber", .glo "InvalidColouring", .exc "InvalidColouring", .glo "InvalidWord", .exc "InvalidWord", .glo "NothingToUndo", .exc "NothingToUndo", .glo "TooMany", .glo "Board", .glo "_wall", .glo "is_within", .glo "is_equation", .glo "is_system_value", .glo "need_system", .glo "comes_to_nought", .glo "is_colouring_value", .glo "need_colouring", .glo "need_unlike", .glo "need_number", .glo "need_few", .glo "all_answers", .glo "in_one_colour", .glo "lots_by", .glo "goes_on", .glo "first_avoiding", .glo "count_by", .glo "one_colour", .glo "avoiding", .glo "count_avoiding", .glo "shown"]
def fa2 : List He.Fa := [.glo "_law_deck", .glo "_law_pick", .glo "_law_known", .glo "_law_system", .glo "_law_on_board", .glo "_law_grown_right", .glo "law", .glo "COLOURS", .cls "Board", .mkr "Board", .noat "Board" "frame", .noat "Board" "every", .noat "Board" "lots", .noat "Board" "now", .noat "Board" "past", .meth "Board" "renew", .meth "Board" "__iadd__", .meth "Board" "undo", .meth "Board" "__bool__"]
def faAll : List He.Fa := fa0 ++ fa1 ++ fa2
def dd__wall : He.DefD := ⟨("_wall", none), "_wall", "_wall", defArgs s__wall, defBody s__wall, defScope s__wall, [], []⟩
def dd_is_within : He.DefD := ⟨("is_within", none), "is_within", "is_within", defArgs s_is_within, defBody s_is_within, defScope s_is_within, [], []⟩
def dd_is_equation : He.DefD := ⟨("is_equation", none), "is_equation", "is_equation", defArgs s_is_equation, defBody s_is_equation, defScope s_is_equation, [], []⟩
def dd_is_system_value : He.DefD := ⟨("is_system_value", none), "is_system_value", "is_system_value", defArgs s_is_system_value, defBody s_is_system_value, defScope s_is_system_value, [], []⟩
def dd_need_system : He.DefD := ⟨("need_system", none), "need_system", "need_system", defArgs s_need_system, defBody s_need_system, defScope s_need_system, [], []⟩
def dd_comes_to_nought : He.DefD := ⟨("comes_to_nought", none), "comes_to_nought", "comes_to_nought", defArgs s_comes_to_nought, defBody s_comes_to_nought, defScope s_comes_to_nought, [], []⟩
def dd_is_colouring_value : He.DefD := ⟨("is_colouring_value", none), "is_colouring_value", "is_colouring_value", defArgs s_is_colouring_value, defBody s_is_colouring_value, defScope s_is_colouring_value, [], []⟩
def dd_need_colouring : He.DefD := ⟨("need_colouring", none), "need_colouring", "need_colouring", defArgs s_need_colouring, defBody s_need_colouring, defScope s_need_colouring, [], []⟩
def dd_need_unlike : He.DefD := ⟨("need_unlike", none), "need_unlike", "need_unlike", defArgs s_need_unlike, defBody s_need_unlike, defScope s_need_unlike, [], []⟩
def dd_need_number : He.DefD := ⟨("need_number", none), "need_number", "need_number", defArgs s_need_number, defBody s_need_number, defScope s_need_number, [], []⟩
def dd_need_few : He.DefD := ⟨("need_few", none), "need_few", "need_few", defArgs s_need_few, defBody s_need_few, defScope s_need_few, [], []⟩
def dd_all_answers : He.DefD := ⟨("all_answers", none), "all_answers", "all_answers", defArgs s_all_answers, defBody s_all_answers, defScope s_all_answers, [], []⟩
def dd_in_one_colour : He.DefD := ⟨("in_one_colour", none), "in_one_colour", "in_one_colour", defArgs s_in_one_colour, defBody s_in_one_colour, defScope s_in_one_colour, [], []⟩
def dd_lots_by : He.DefD := ⟨("lots_by", none), "lots_by", "lots_by", defArgs s_lots_by, defBody s_lots_by, defScope s_lots_by, [], []⟩
def dd_goes_on : He.DefD := ⟨("goes_on", none), "goes_on", "goes_on", defArgs s_goes_on, defBody s_goes_on, defScope s_goes_on, [], []⟩
def dd_first_avoiding : He.DefD := ⟨("first_avoiding", none), "first_avoiding", "first_avoiding", defArgs s_first_avoiding, defBody s_first_avoiding, defScope s_first_avoiding, [], []⟩
def dd_count_by : He.DefD := ⟨("count_by", none), "count_by", "count_by", defArgs s_count_by, defBody s_count_by, defScope s_count_by, [], []⟩
def dd_one_colour : He.DefD := ⟨("one_colour", none), "one_colour", "one_colour", defArgs s_one_colour, defBody s_one_colour, defScope s_one_colour, [], []⟩
def dd_avoiding : He.DefD := ⟨("avoiding", none), "avoiding", "avoiding", defArgs s_avoiding, defBody s_avoiding, defScope s_avoiding, [], []⟩
def dd_count_avoiding : He.DefD := ⟨("count_avoiding", none), "count_avoiding", "count_avoiding", defArgs s_count_avoiding, defBody s_count_avoiding, defScope s_count_avoiding, [], []⟩
def dd_shown : He.DefD := ⟨("shown", none), "shown", "shown", defArgs s_shown, defBody s_shown, defScope s_shown, [], []⟩
def dd_l_deck : He.DefD := ⟨("_law_deck", none), "_law_deck", "_law_deck", defArgs s_l_deck, defBody s_l_deck, defScope s_l_deck, [], []⟩
def dd_l_pick : He.DefD := ⟨("_law_pick", none), "_law_pick", "_law_pick", defArgs s_l_pick, defBody s_l_pick, defScope s_l_pick, [], []⟩
def dd_l_known : He.DefD := ⟨("_law_known", none), "_law_known", "_law_known", defArgs s_l_known, defBody s_l_known, defScope s_l_known, [], []⟩
def dd_l_system : He.DefD := ⟨("_law_system", none), "_law_system", "_law_system", defArgs s_l_system, defBody s_l_system, defScope s_l_system, [], []⟩
def dd_l_on_board : He.DefD := ⟨("_law_on_board", none), "_law_on_board", "_law_on_board", defArgs s_l_on_board, defBody s_l_on_board, defScope s_l_on_board, [], []⟩
def dd_l_grown_right : He.DefD := ⟨("_law_grown_right", none), "_law_grown_right", "_law_grown_right", defArgs s_l_grown_right, defBody s_l_grown_right, defScope s_l_grown_right, [], []⟩
def dd_law : He.DefD := ⟨("law", none), "law", "law", defArgs s_law, defBody s_law, defScope s_law, [], []⟩
def dd_Board___init__ : He.DefD := ⟨("Board", some "__init__"), "__init__", "Board.__init__", defArgs s_Board___init__, defBody s_Board___init__, defScope s_Board___init__, [], []⟩
def dd_Board_renew : He.DefD := ⟨("Board", some "renew"), "renew", "Board.renew", defArgs s_Board_renew, defBody s_Board_renew, defScope s_Board_renew, [], []⟩
def dd_Board___iadd__ : He.DefD := ⟨("Board", some "__iadd__"), "__iadd__", "Board.__iadd__", defArgs s_Board___iadd__, defBody s_Board___iadd__, defScope s_Board___iadd__, [], []⟩
def dd_Board_undo : He.DefD := ⟨("Board", some "undo"), "undo", "Board.undo", defArgs s_Board_undo, defBody s_Board_undo, defScope s_Board_undo, [], []⟩
def dd_Board___bool__ : He.DefD := ⟨("Board", some "__bool__"), "__bool__", "Board.__bool__", defArgs s_Board___bool__, defBody s_Board___bool__, defScope s_Board___bool__, [], []⟩
def fn0 : List He.DefD := [dd__wall, dd_is_within, dd_is_equation, dd_is_system_value, dd_need_system, dd_comes_to_nought, dd_is_colouring_value, dd_need_colouring, dd_need_unlike, dd_need_number, dd_need_few, dd_all_answers, dd_in_one_colour, dd_lots_by, dd_goes_on, dd_first_avoiding, dd_count_by, dd_one_colour, dd_avoiding, dd_count_avoiding]
def fn1 : List He.DefD := [dd_shown, dd_l_deck, dd_l_pick, dd_l_known, dd_l_system, dd_l_on_board, dd_l_grown_right, dd_law, dd_Board___init__, dd_Board_renew, dd_Board___iadd__, dd_Board_undo, dd_Board___bool__]
def fnAll : List He.DefD := fn0 ++ fn1
def loose0 : List PySem.Str := ["MOST_EQUATIONS", "MOST_COLUMNS_systems", "MOST_ENTRY", "MOST_SIGNS", "MOST_COLUMNS_colourings", "MOST_COUNTED", "MOST_COLOURS", "MOST_CALLS", "COLOURS", "ColourError", "InvalidSystem", "InvalidNumber", "InvalidColouring", "InvalidWord", "NothingToUndo", "TooMany", "Board", "_wall", "is_within", "is_equation", "is_system_value", "need_system", "comes_to_nought", "is_colouring_value", "need_colouring", "need_unlike", "need_number", "need_few", "all_answers", "in_one_colour"]
def loose1 : List PySem.Str := ["lots_by", "goes_on", "first_avoiding", "count_by", "one_colour", "avoiding", "count_avoiding", "shown", "_law_deck", "_law_pick", "_law_known", "_law_system", "_law_on_board", "_law_grown_right"]
def looseAll : List PySem.Str := loose0 ++ loose1
def tfAll : List He.Defn := []
def exAll (K : PySem.W.Frag) : Bool := (tmB PR K (He.ga K "TooMany") (He.ma K (He.ga K "TooMany") "__init__") && (PySem.W.selfFirst K (He.ga K "Board") && (propB K (He.ga K "Board") "clash" "Board.clash" && (propB K (He.ga K "Board") "free" "Board.free" && He.tupB K "COLOURS" [He.Dv.str (Str.ofString "0"), He.Dv.str (Str.ofString "1"), He.Dv.str (Str.ofString "2"), He.Dv.str (Str.ofString "3")]))))
abbrev RR : PySem.W.OpenRow := PySem.W.OpenLaw.row PySem.Challenge.rw_nocolouring_k16_whole_colourings_counted
def tmFs (K : PySem.W.Frag) : List Addr := [He.ma K (He.ga K "TooMany") "__init__", propAd K (He.ga K "Board") "clash", propAd K (He.ga K "Board") "free"]
def tmVals : List FnV := [some (("__init__" : Str), ("TooMany.__init__" : Str), defArgs tmSt, FuncBody.stmts (defBody tmSt), defScope tmSt, mainGlobals, [("__class__" : Str)], builtinsNs), some (("clash" : Str), ("Board.clash" : Str), defArgs s_Board_clash, FuncBody.stmts (defBody s_Board_clash), defScope s_Board_clash, mainGlobals, [], builtinsNs), some (("free" : Str), ("Board.free" : Str), defArgs s_Board_free, FuncBody.stmts (defBody s_Board_free), defScope s_Board_free, mainGlobals, [], builtinsNs)]
abbrev hk : PySem.W.Hook := hookY 7 faAll fnAll tfAll exAll tmFs tmVals
def ob (s : PySem.W.SharedT) : AlY := obsY 7 faAll fnAll tfAll exAll tmFs (HandSHeadRun.getT s)
theorem ob_eq (s : PySem.W.SharedT) : ob s = hk.obs s.abs := obsY_eq (HandSHeadRun.getT_eq s)
theorem run (w : World) : HandSHeadRun.RunEq RR (PySem.W.view RR.prog [49]) hk ob 6000 looseAll w := by
  intro os
  kernel_rfl
end NC

end
section
set_option Elab.async false
set_option linter.all false
set_option maxRecDepth 100000
set_option maxHeartbeats 0
namespace NC
open PySem PySem.Spec PyProof.Rows L2 RZ
theorem ex_split {K : PySem.W.Frag} (h : exAll K = true) : tmB PR K (He.ga K "TooMany") (He.ma K (He.ga K "TooMany") "__init__") = true ∧ PySem.W.selfFirst K (He.ga K "Board") = true ∧ propB K (He.ga K "Board") "clash" "Board.clash" = true ∧ propB K (He.ga K "Board") "free" "Board.free" = true ∧ He.tupB K "COLOURS" [He.Dv.str (Str.ofString "0"), He.Dv.str (Str.ofString "1"), He.Dv.str (Str.ofString "2"), He.Dv.str (Str.ofString "3")] = true := by
  unfold exAll at h
  obtain ⟨x0, h⟩ := He.ba h
  obtain ⟨x1, h⟩ := He.ba h
  obtain ⟨x2, h⟩ := He.ba h
  obtain ⟨x3, h⟩ := He.ba h
  exact ⟨x0, x1, x2, x3, h⟩
theorem tm_of {w : World} {K : PySem.W.Frag} {h : Heap} {mg : Str → Option Value} (c : SaysY faAll fnAll tfAll exAll tmFs tmVals w h K) (ms : mg "super" = none) : NcTM.TmC PR K mg (He.ga K "TooMany") (He.ma K (He.ga K "TooMany") "__init__") tmSt ∧ XfC K (He.ga K "TooMany") := by
  have z := ex_split c.x.more
  refine tmB_ok z.1 ?_ ms (by decide +kernel)
  have v := c.v
  unfold tmFs tmVals at v
  exact List.head_eq_of_cons_eq v
theorem prop_clash {w : World} {K : PySem.W.Frag} {h : Heap} (c : SaysY faAll fnAll tfAll exAll tmFs tmVals w h K) : Pd K (He.ga K "Board") "clash" "Board.clash" s_Board_clash := by
  have z := ex_split c.x.more
  refine propB_ok z.2.2.1 ?_
  have v := c.v
  unfold tmFs tmVals at v
  exact List.head_eq_of_cons_eq (List.tail_eq_of_cons_eq v)
theorem prop_free {w : World} {K : PySem.W.Frag} {h : Heap} (c : SaysY faAll fnAll tfAll exAll tmFs tmVals w h K) : Pd K (He.ga K "Board") "free" "Board.free" s_Board_free := by
  have z := ex_split c.x.more
  refine propB_ok z.2.2.2.1 ?_
  have v := c.v
  unfold tmFs tmVals at v
  exact List.head_eq_of_cons_eq (List.tail_eq_of_cons_eq (List.tail_eq_of_cons_eq v))
theorem top_of {w : World} {K : PySem.W.Frag} {h : Heap} {mg : Str → Option Value} (X : K.In h) (G : h.Ns mainGlobals mg) (c : SaysY faAll fnAll tfAll exAll tmFs tmVals w h K) : Top K mg where
  m_ValueError := He.free_ok X G (c.x.t.d.fact 0 (f := .free "ValueError") rfl)
  m_abs := He.free_ok X G (c.x.t.d.fact 1 (f := .free "abs") rfl)
  m_all := He.free_ok X G (c.x.t.d.fact 2 (f := .free "all") rfl)
  m_bool := He.free_ok X G (c.x.t.d.fact 3 (f := .free "bool") rfl)
  m_enumerate := He.free_ok X G (c.x.t.d.fact 4 (f := .free "enumerate") rfl)
  m_int := He.free_ok X G (c.x.t.d.fact 5 (f := .free "int") rfl)
  m_isinstance := He.free_ok X G (c.x.t.d.fact 6 (f := .free "isinstance") rfl)
  m_len := He.free_ok X G (c.x.t.d.fact 7 (f := .free "len") rfl)
  m_list := He.free_ok X G (c.x.t.d.fact 8 (f := .free "list") rfl)
  m_max := He.free_ok X G (c.x.t.d.fact 9 (f := .free "max") rfl)
  m_range := He.free_ok X G (c.x.t.d.fact 10 (f := .free "range") rfl)
  m_set := He.free_ok X G (c.x.t.d.fact 11 (f := .free "set") rfl)
  m_sorted := He.free_ok X G (c.x.t.d.fact 12 (f := .free "sorted") rfl)
  m_str := He.free_ok X G (c.x.t.d.fact 13 (f := .free "str") rfl)
  m_sum := He.free_ok X G (c.x.t.d.fact 14 (f := .free "sum") rfl)
  m_super := He.free_ok X G (c.x.t.d.fact 15 (f := .free "super") rfl)
  m_tuple := He.free_ok X G (c.x.t.d.fact 16 (f := .free "tuple") rfl)
  m_zip := He.free_ok X G (c.x.t.d.fact 17 (f := .free "zip") rfl)
  c_MOST_EQUATIONS := He.int_ok X G (c.x.t.d.fact 18 (f := .int "MOST_EQUATIONS" 3) rfl)
  c_MOST_COLUMNS_systems := He.int_ok X G (c.x.t.d.fact 19 (f := .int "MOST_COLUMNS_systems" 6) rfl)
  c_MOST_ENTRY := He.int_ok X G (c.x.t.d.fact 20 (f := .int "MOST_ENTRY" 9) rfl)
  c_MOST_SIGNS := He.int_ok X G (c.x.t.d.fact 21 (f := .int "MOST_SIGNS" 16) rfl)
  c_MOST_COLUMNS_colourings := He.int_ok X G (c.x.t.d.fact 22 (f := .int "MOST_COLUMNS_colourings" 4) rfl)
  c_MOST_COUNTED := He.int_ok X G (c.x.t.d.fact 23 (f := .int "MOST_COUNTED" 9) rfl)
  c_MOST_COLOURS := He.int_ok X G (c.x.t.d.fact 24 (f := .int "MOST_COLOURS" 4) rfl)
  c_MOST_CALLS := He.int_ok X G (c.x.t.d.fact 25 (f := .int "MOST_CALLS" 40) rfl)
  g_ColourError := He.glo_ok X G (c.x.t.d.fact 26 (f := .glo "ColourError") rfl)
  g_InvalidSystem := He.glo_ok X G (c.x.t.d.fact 27 (f := .glo "InvalidSystem") rfl)
  e_InvalidSystem := let z := He.exc_ok (c.x.t.d.fact 28 (f := .exc "InvalidSystem") rfl); ⟨He.glo_ok X G (c.x.t.d.fact 27 (f := .glo "InvalidSystem") rfl), z.1, z.2.1, z.2.2.1, z.2.2.2⟩
  g_InvalidNumber := He.glo_ok X G (c.x.t.d.fact 29 (f := .glo "InvalidNumber") rfl)
  e_InvalidNumber := let z := He.exc_ok (c.x.t.d.fact 30 (f := .exc "InvalidNumber") rfl); ⟨He.glo_ok X G (c.x.t.d.fact 29 (f := .glo "InvalidNumber") rfl), z.1, z.2.1, z.2.2.1, z.2.2.2⟩
  g_InvalidColouring := He.glo_ok X G (c.x.t.d.fact 31 (f := .glo "InvalidColouring") rfl)
  e_InvalidColouring := let z := He.exc_ok (c.x.t.d.fact 32 (f := .exc "InvalidColouring") rfl); ⟨He.glo_ok X G (c.x.t.d.fact 31 (f := .glo "InvalidColouring") rfl), z.1, z.2.1, z.2.2.1, z.2.2.2⟩
  g_InvalidWord := He.glo_ok X G (c.x.t.d.fact 33 (f := .glo "InvalidWord") rfl)
  e_InvalidWord := let z := He.exc_ok (c.x.t.d.fact 34 (f := .exc "InvalidWord") rfl); ⟨He.glo_ok X G (c.x.t.d.fact 33 (f := .glo "InvalidWord") rfl), z.1, z.2.1, z.2.2.1, z.2.2.2⟩
  g_NothingToUndo := He.glo_ok X G (c.x.t.d.fact 35 (f := .glo "NothingToUndo") rfl)
  e_NothingToUndo := let z := He.exc_ok (c.x.t.d.fact 36 (f := .exc "NothingToUndo") rfl); ⟨He.glo_ok X G (c.x.t.d.fact 35 (f := .glo "NothingToUndo") rfl), z.1, z.2.1, z.2.2.1, z.2.2.2⟩
  g_TooMany := He.glo_ok X G (c.x.t.d.fact 37 (f := .glo "TooMany") rfl)
  g_Board := He.glo_ok X G (c.x.t.d.fact 38 (f := .glo "Board") rfl)
  d__wall := let ⟨fd, F⟩ := c.x.t.d.def_ 0 (d := dd__wall) rfl; ⟨_, fd, F, He.glo_ok X G (c.x.t.d.fact 39 (f := .glo "_wall") rfl)⟩
  d_is_within := let ⟨fd, F⟩ := c.x.t.d.def_ 1 (d := dd_is_within) rfl; ⟨_, fd, F, He.glo_ok X G (c.x.t.d.fact 40 (f := .glo "is_within") rfl)⟩
  d_is_equation := let ⟨fd, F⟩ := c.x.t.d.def_ 2 (d := dd_is_equation) rfl; ⟨_, fd, F, He.glo_ok X G (c.x.t.d.fact 41 (f := .glo "is_equation") rfl)⟩
  d_is_system_value := let ⟨fd, F⟩ := c.x.t.d.def_ 3 (d := dd_is_system_value) rfl; ⟨_, fd, F, He.glo_ok X G (c.x.t.d.fact 42 (f := .glo "is_system_value") rfl)⟩
  d_need_system := let ⟨fd, F⟩ := c.x.t.d.def_ 4 (d := dd_need_system) rfl; ⟨_, fd, F, He.glo_ok X G (c.x.t.d.fact 43 (f := .glo "need_system") rfl)⟩
  d_comes_to_nought := let ⟨fd, F⟩ := c.x.t.d.def_ 5 (d := dd_comes_to_nought) rfl; ⟨_, fd, F, He.glo_ok X G (c.x.t.d.fact 44 (f := .glo "comes_to_nought") rfl)⟩
  d_is_colouring_value := let ⟨fd, F⟩ := c.x.t.d.def_ 6 (d := dd_is_colouring_value) rfl; ⟨_, fd, F, He.glo_ok X G (c.x.t.d.fact 45 (f := .glo "is_colouring_value") rfl)⟩
  d_need_colouring := let ⟨fd, F⟩ := c.x.t.d.def_ 7 (d := dd_need_colouring) rfl; ⟨_, fd, F, He.glo_ok X G (c.x.t.d.fact 46 (f := .glo "need_colouring") rfl)⟩
  d_need_unlike := let ⟨fd, F⟩ := c.x.t.d.def_ 8 (d := dd_need_unlike) rfl; ⟨_, fd, F, He.glo_ok X G (c.x.t.d.fact 47 (f := .glo "need_unlike") rfl)⟩
  d_need_number := let ⟨fd, F⟩ := c.x.t.d.def_ 9 (d := dd_need_number) rfl; ⟨_, fd, F, He.glo_ok X G (c.x.t.d.fact 48 (f := .glo "need_number") rfl)⟩
  d_need_few := let ⟨fd, F⟩ := c.x.t.d.def_ 10 (d := dd_need_few) rfl; ⟨_, fd, F, He.glo_ok X G (c.x.t.d.fact 49 (f := .glo "need_few") rfl)⟩
  d_all_answers := let ⟨fd, F⟩ := c.x.t.d.def_ 11 (d := dd_all_answers) rfl; ⟨_, fd, F, He.glo_ok X G (c.x.t.d.fact 50 (f := .glo "all_answers") rfl)⟩
  d_in_one_colour := let ⟨fd, F⟩ := c.x.t.d.def_ 12 (d := dd_in_one_colour) rfl; ⟨_, fd, F, He.glo_ok X G (c.x.t.d.fact 51 (f := .glo "in_one_colour") rfl)⟩
  d_lots_by := let ⟨fd, F⟩ := c.x.t.d.def_ 13 (d := dd_lots_by) rfl; ⟨_, fd, F, He.glo_ok X G (c.x.t.d.fact 52 (f := .glo "lots_by") rfl)⟩
  d_goes_on := let ⟨fd, F⟩ := c.x.t.d.def_ 14 (d := dd_goes_on) rfl; ⟨_, fd, F, He.glo_ok X G (c.x.t.d.fact 53 (f := .glo "goes_on") rfl)⟩
  d_first_avoiding := let ⟨fd, F⟩ := c.x.t.d.def_ 15 (d := dd_first_avoiding) rfl; ⟨_, fd, F, He.glo_ok X G (c.x.t.d.fact 54 (f := .glo "first_avoiding") rfl)⟩
  d_count_by := let ⟨fd, F⟩ := c.x.t.d.def_ 16 (d := dd_count_by) rfl; ⟨_, fd, F, He.glo_ok X G (c.x.t.d.fact 55 (f := .glo "count_by") rfl)⟩
  d_one_colour := let ⟨fd, F⟩ := c.x.t.d.def_ 17 (d := dd_one_colour) rfl; ⟨_, fd, F, He.glo_ok X G (c.x.t.d.fact 56 (f := .glo "one_colour") rfl)⟩
  d_avoiding := let ⟨fd, F⟩ := c.x.t.d.def_ 18 (d := dd_avoiding) rfl; ⟨_, fd, F, He.glo_ok X G (c.x.t.d.fact 57 (f := .glo "avoiding") rfl)⟩
  d_count_avoiding := let ⟨fd, F⟩ := c.x.t.d.def_ 19 (d := dd_count_avoiding) rfl; ⟨_, fd, F, He.glo_ok X G (c.x.t.d.fact 58 (f := .glo "count_avoiding") rfl)⟩
  d_shown := let ⟨fd, F⟩ := c.x.t.d.def_ 20 (d := dd_shown) rfl; ⟨_, fd, F, He.glo_ok X G (c.x.t.d.fact 59 (f := .glo "shown") rfl)⟩
  d_l_deck := let ⟨fd, F⟩ := c.x.t.d.def_ 21 (d := dd_l_deck) rfl; ⟨_, fd, F, He.glo_ok X G (c.x.t.d.fact 60 (f := .glo "_law_deck") rfl)⟩
  d_l_pick := let ⟨fd, F⟩ := c.x.t.d.def_ 22 (d := dd_l_pick) rfl; ⟨_, fd, F, He.glo_ok X G (c.x.t.d.fact 61 (f := .glo "_law_pick") rfl)⟩
  d_l_known := let ⟨fd, F⟩ := c.x.t.d.def_ 23 (d := dd_l_known) rfl; ⟨_, fd, F, He.glo_ok X G (c.x.t.d.fact 62 (f := .glo "_law_known") rfl)⟩
  d_l_system := let ⟨fd, F⟩ := c.x.t.d.def_ 24 (d := dd_l_system) rfl; ⟨_, fd, F, He.glo_ok X G (c.x.t.d.fact 63 (f := .glo "_law_system") rfl)⟩
  d_l_on_board := let ⟨fd, F⟩ := c.x.t.d.def_ 25 (d := dd_l_on_board) rfl; ⟨_, fd, F, He.glo_ok X G (c.x.t.d.fact 64 (f := .glo "_law_on_board") rfl)⟩
  d_l_grown_right := let ⟨fd, F⟩ := c.x.t.d.def_ 26 (d := dd_l_grown_right) rfl; ⟨_, fd, F, He.glo_ok X G (c.x.t.d.fact 65 (f := .glo "_law_grown_right") rfl)⟩
  d_law := let ⟨fd, F⟩ := c.x.t.d.def_ 27 (d := dd_law) rfl; ⟨_, fd, F, He.glo_ok X G (c.x.t.d.fact 66 (f := .glo "law") rfl)⟩
  b_Board := He.cls_ok (c.x.t.d.fact 68 (f := .cls "Board") rfl)
  s_Board := (ex_split c.x.more).2.1
  n_Board_frame := He.noat_ok (c.x.t.d.fact 70 (f := .noat "Board" "frame") rfl)
  n_Board_every := He.noat_ok (c.x.t.d.fact 71 (f := .noat "Board" "every") rfl)
  n_Board_lots := He.noat_ok (c.x.t.d.fact 72 (f := .noat "Board" "lots") rfl)
  n_Board_now := He.noat_ok (c.x.t.d.fact 73 (f := .noat "Board" "now") rfl)
  n_Board_past := He.noat_ok (c.x.t.d.fact 74 (f := .noat "Board" "past") rfl)
  i_Board___init__ := let ⟨fd, F⟩ := c.x.t.d.def_ 28 (d := dd_Board___init__) rfl; ⟨fd, F, He.mkr_ok (c.x.t.d.fact 69 (f := .mkr "Board") rfl)⟩
  h_Board_renew := let ⟨fd, F⟩ := c.x.t.d.def_ 29 (d := dd_Board_renew) rfl; ⟨fd, F, He.meth_ok (c.x.t.d.fact 75 (f := .meth "Board" "renew") rfl)⟩
  h_Board___iadd__ := let ⟨fd, F⟩ := c.x.t.d.def_ 30 (d := dd_Board___iadd__) rfl; ⟨fd, F, He.meth_ok (c.x.t.d.fact 76 (f := .meth "Board" "__iadd__") rfl)⟩
  h_Board_undo := let ⟨fd, F⟩ := c.x.t.d.def_ 31 (d := dd_Board_undo) rfl; ⟨fd, F, He.meth_ok (c.x.t.d.fact 77 (f := .meth "Board" "undo") rfl)⟩
  h_Board___bool__ := let ⟨fd, F⟩ := c.x.t.d.def_ 32 (d := dd_Board___bool__) rfl; ⟨fd, F, He.meth_ok (c.x.t.d.fact 78 (f := .meth "Board" "__bool__") rfl)⟩
  p_Board_clash := prop_clash c
  p_Board_free := prop_free c
  c_COLOURS := ⟨He.glo_ok X G (c.x.t.d.fact 67 (f := .glo "COLOURS") rfl), fun H => He.tupB_ok (ex_split c.x.more).2.2.2.2 H⟩
  t_TooMany := tm_of c (He.free_ok X G (c.x.t.d.fact 15 (f := .free "super") rfl))
theorem lead_in {K : PySem.W.Frag} {H : Hp} {a : Addr} {ns : List Int} (hl : ns.length ≤ 63) (hS : SqL K H a (ns.map V.int)) : upS K 1 (sp_law (K := K)) [.ref a] H (fun v _ => v = .bl true) (fun _ _ _ => False) := by
  have core (p : P) (hp : p = .lst (ns.map P.int) ∨ ∃ a : Addr, p = .ref a ∧ KLst K a (ns.map V.int)) (hi : Is K H p (.ref a)) : upS K 1 (sp_law (K := K)) [.ref a] H (fun v _ => v = .bl true) (fun _ _ _ => False) := by
    refine ⟨H, fun _ => none, [p], fun p _ => p = .bl true, fun _ _ _ => False, ⟨Same.refl _, fun b o e => (by cases e), fun b o e => (by cases e)⟩, ⟨_, _, rfl, hi, rfl⟩, rfl, ⟨p, ns, rfl, hp, hl, fun _ => rfl⟩, fun p v Z1 M1 H1 _ _ hi e => ?_, fun _ _ _ _ _ _ _ _ _ z => z⟩
    subst e; exact hi
  rcases hS with hS | hS
  · exact core _ (.inl rfl) ⟨a, ns.map V.int, rfl, hS, IsL.of_ints⟩
  · exact core (.ref a) (.inr ⟨a, rfl, hS⟩) rfl
theorem facts {w : World} {K : PySem.W.Frag} {h : Heap} {mg : Str → Option Value} {f : Addr} (X : K.In h) (G : h.Ns mainGlobals mg) (hfa : mg ("law" : Str) = some (.ref f)) (c : SaysY faAll fnAll tfAll exAll tmFs tmVals w h K) : LamX.LawAtS PySem.Challenge.rw_nocolouring_k16_whole_colourings_counted w K (L2N.CX (PySem.Challenge.rw_nocolouring_k16_whole_colourings_counted).prog w) 30 63 "script" mg f h := by
  obtain ⟨fd, F⟩ := c.x.t.d.def_ 27 (d := dd_law) rfl
  have e := hfa.symm.trans (He.glo_ok X G (c.x.t.d.fact 66 (f := .glo "law") rfl))
  cases e
  have b := FunD.bindsA (ps := ["script"]) F fun _ _ _ _ _ _ us hl => match us, hl with | [_], _ => rfl
  refine ⟨fd, [], upS K 1 (sp_law (K := K)), fun p q => absurd q List.not_mem_nil, fun p q => absurd q List.not_mem_nil, fun p q => absurd q List.not_mem_nil, fun s v => b s [v] rfl, fun H a ns hl _ hT hS => lead_in hl hS, fun base X2 G2 hTB => ?_⟩
  exact ok_law (top_of X G c) F
end NC
open PySem PySem.W PySem.Calls PyProof.Rows
theorem PySem.Challenge.cw_nocolouring_k16_whole_colourings_counted_holds : PySem.Challenge.rw_nocolouring_k16_whole_colourings_counted.Holds := by
  w_on; o_law
  refine HandSHeadRun.head_any (r := OpenLaw.row PySem.Challenge.rw_nocolouring_k16_whole_colourings_counted) (q := view (OpenLaw.row PySem.Challenge.rw_nocolouring_k16_whole_colourings_counted).prog [49]) (H := NC.hk) (ob := NC.ob) (M := 6000) (loose := NC.looseAll) (d := HandSHeadRun.topDef (OpenLaw.row PySem.Challenge.rw_nocolouring_k16_whole_colourings_counted).prog 49) (kwd := []) NC.ob_eq
    (by kernel_rfl) (fun s => by kernel_rfl) NC.run (by kernel_rfl) (by kernel_rfl) (by kernel_rfl) (by rfl) (by first | assumption | decide +kernel) (by decide +kernel) ⟨rfl, rfl, rfl, rfl, rfl, by decide +kernel⟩ ?hw ?hc
  case hw => w_witness2
  case hc =>
    refine LamX.walk_ofTsE (l := PySem.Challenge.rw_nocolouring_k16_whole_colourings_counted) (n := 63) (k := 30) (x := "script") (CX := fun w => L2N.CX (PySem.Challenge.rw_nocolouring_k16_whole_colourings_counted).prog w) rfl (by decide) (by kernel_rfl) ⟨rfl, by decide, by decide⟩ ?F ?hCX
    case F =>
      intro w mg fa h Y G hmg0
      obtain ⟨K, KX, c⟩ := Y
      have hmg : mg ("law" : PySem.Str) = some (.ref fa) := by
        have e : (HandSHeadRun.topDef (OpenLaw.row PySem.Challenge.rw_nocolouring_k16_whole_colourings_counted).prog 49).name = ("law" : PySem.Str) := by kernel_rfl
        rw [← e]
        exact hmg0
      exact ⟨K, KX, NC.facts KX G hmg c⟩
    case hCX =>
      intro w H s e s2 h
      obtain ⟨_, _, _, _, _, _, _, _, _, _, _, _, z⟩ := h
      exact z


end
