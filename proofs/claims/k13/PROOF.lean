import PyProof.Rows.All
import Wide.All
import OpenK.AllK
import Wide.FinOn
import HandS.ForMost
import HandS.ForExc
import KE.DataEq
import HandS.IsInst
import HandS.RaiseMore
import HandS.More
import HandS.SetKeys
import HandS.Conv
import HandS.Text
import HandS.Codes
import KE.KTupSum
import PyProof.ListStr
import PySem.Challenge.RW_rollmend_k13_cuts
set_option Elab.async false
set_option autoImplicit false
set_option linter.all false
set_option maxRecDepth 100000
set_option maxHeartbeats 4000000
/-! data without addresses, and what stands for it in a heap -/
namespace DD
open PySem PySem.Spec PyProof.Rows L2

/-- a dict's key: a text, a tuple of ints -/
inductive DK where
  | s (cs : List Nat) | t (ns : List Int)
  deriving DecidableEq
inductive PV where
  | n | b (x : Bool) | i (x : Int) | s (cs : List Nat) | t (xs : List PV) | l (xs : List PV)
  /-- a list of ints that is read alone (the script) -/
  | z (ns : List Int)
  /-- a dict that is read alone -/
  | q (ks : List DK) (vs : List PV)

mutual
def toPy : PV → PyData
  | .n => .none
  | .b x => .bool x
  | .i x => .int x
  | .s cs => .str ⟨cs.toArray⟩
  | .t xs => .tuple (toPys xs)
  | .l xs => .list (toPys xs)
  | .z ns => .list (ns.map .int)
  | .q _ _ => .none
def toPys : List PV → List PyData
  | [] => []
  | x :: xs => toPy x :: toPys xs
end
mutual
def eqv : PV → PV → Bool
  | .n, .n => true
  | .n, .q _ _ => true
  | .q _ _, .n => true
  | .q _ _, .q _ _ => true
  | .b a, .b c => a == c
  | .b a, .i j => (if a then 1 else 0) == j
  | .i i, .b c => i == (if c then 1 else 0)
  | .i i, .i j => i == j
  | .s x, .s y => x == y
  | .l xs, .l ys => eqvs xs ys
  | .t xs, .t ys => eqvs xs ys
  | .z ns, .z ms => PyData.eqvAll (ns.map .int) (ms.map .int)
  | .z ns, .l ys => PyData.eqvAll (ns.map .int) (toPys ys)
  | .l xs, .z ns => PyData.eqvAll (toPys xs) (ns.map .int)
  | _, _ => false
def eqvs : List PV → List PV → Bool
  | [], [] => true
  | x :: xs, y :: ys => eqv x y && eqvs xs ys
  | _, _ => false
end
mutual
def dep : PV → Nat
  | .t xs => deps xs + 1
  | .l xs => deps xs + 1
  | .z ns => PyData.depthAll (ns.map .int) + 1
  | .q _ _ => 1000
  | _ => 0
def deps : List PV → Nat
  | [] => 0
  | x :: xs => max (dep x) (deps xs)
end

theorem str_inj (x y : List Nat) : ((⟨x.toArray⟩ : Str) == ⟨y.toArray⟩) = (x == y) := by
  by_cases h : x = y
  · subst h; simp
  · have h' : ¬ (⟨x.toArray⟩ : Str) = ⟨y.toArray⟩ := fun e => h (by injection e with e; simpa using e)
    rw [beq_eq_false_iff_ne.mpr h, beq_eq_false_iff_ne.mpr h']

theorem ints_plain : ∀ ns : List Int, PyData.plainAll (ns.map .int) = true
  | [] => by simp [PyData.plainAll]
  | n :: ns => by simp [PyData.plainAll, PyData.plain, ints_plain ns]
theorem ints_refl : ∀ ns : List Int, PyData.eqvAll (ns.map .int) (ns.map .int) = true
  | [] => by simp [PyData.eqvAll]
  | n :: ns => by simp [PyData.eqvAll, PyData.eqv, ints_refl ns]
theorem ints_depth : ∀ ns : List Int, PyData.depthAll (ns.map .int) = 0
  | [] => by simp [PyData.depthAll]
  | n :: ns => by simp [PyData.depthAll, PyData.depth, ints_depth ns]
mutual
theorem eqv_py : ∀ x y : PV, PyData.eqv (toPy x) (toPy y) = eqv x y
  | .n, y => by cases y <;> simp [toPy, eqv, PyData.eqv]
  | .b _, y => by cases y <;> simp [toPy, eqv, PyData.eqv]
  | .i _, y => by cases y <;> simp [toPy, eqv, PyData.eqv]
  | .s _, y => by cases y <;> simp only [toPy, eqv, PyData.eqv, str_inj]
  | .t xs, y => by
    cases y with
    | t ys => simp only [toPy, eqv, PyData.eqv]; exact eqvs_py xs ys
    | _ => simp [toPy, eqv, PyData.eqv]
  | .l xs, y => by
    cases y with
    | l ys => simp only [toPy, eqv, PyData.eqv]; exact eqvs_py xs ys
    | _ => simp [toPy, eqv, PyData.eqv]
  | .z _, y => by cases y <;> simp [toPy, eqv, PyData.eqv]
  | .q _ _, y => by cases y <;> simp [toPy, eqv, PyData.eqv]
theorem eqvs_py : ∀ xs ys : List PV, PyData.eqvAll (toPys xs) (toPys ys) = eqvs xs ys
  | [], [] => by simp [toPys, eqvs, PyData.eqvAll]
  | [], _ :: _ => by simp [toPys, eqvs, PyData.eqvAll]
  | _ :: _, [] => by simp [toPys, eqvs, PyData.eqvAll]
  | x :: xs, y :: ys => by simp only [toPys, eqvs, PyData.eqvAll, eqv_py x y, eqvs_py xs ys]
end
mutual
theorem plain_py : ∀ x : PV, (toPy x).plain = true
  | .n => by simp [toPy, PyData.plain]
  | .b _ => by simp [toPy, PyData.plain]
  | .i _ => by simp [toPy, PyData.plain]
  | .s _ => by simp [toPy, PyData.plain]
  | .t xs => by simp only [toPy, PyData.plain]; exact plains_py xs
  | .l xs => by simp only [toPy, PyData.plain]; exact plains_py xs
  | .z ns => by simp only [toPy, PyData.plain]; exact ints_plain ns
  | .q _ _ => by simp [toPy, PyData.plain]
theorem plains_py : ∀ xs : List PV, PyData.plainAll (toPys xs) = true
  | [] => by simp [toPys, PyData.plainAll]
  | x :: xs => by simp only [toPys, PyData.plainAll, plain_py x, plains_py xs, Bool.and_self]
end
mutual
theorem depth_py : ∀ x : PV, (toPy x).depth ≤ dep x
  | .n => by simp [toPy, PyData.depth, dep]
  | .b _ => by simp [toPy, PyData.depth, dep]
  | .i _ => by simp [toPy, PyData.depth, dep]
  | .s _ => by simp [toPy, PyData.depth, dep]
  | .t xs => by
    have := depths_py xs
    simp only [toPy, PyData.depth, dep]
    omega
  | .l xs => by
    have := depths_py xs
    simp only [toPy, PyData.depth, dep]
    omega
  | .z ns => by simp only [toPy, PyData.depth, dep]; omega
  | .q _ _ => by simp [toPy, PyData.depth]
theorem depths_py : ∀ xs : List PV, PyData.depthAll (toPys xs) ≤ deps xs
  | [] => by simp [toPys, PyData.depthAll, deps]
  | x :: xs => by
    have := depth_py x
    have := depths_py xs
    simp only [toPys, PyData.depthAll, deps]
    omega
end
mutual
theorem eqv_refl : ∀ x : PV, eqv x x = true
  | .n => by simp [eqv]
  | .b _ => by simp [eqv]
  | .i _ => by simp [eqv]
  | .s _ => by simp [eqv]
  | .t xs => by simp only [eqv]; exact eqvs_refl xs
  | .l xs => by simp only [eqv]; exact eqvs_refl xs
  | .z ns => by simp only [eqv]; exact ints_refl ns
  | .q _ _ => by simp [eqv]
theorem eqvs_refl : ∀ xs : List PV, eqvs xs xs = true
  | [] => by simp [eqvs]
  | x :: xs => by simp only [eqvs, eqv_refl x, eqvs_refl xs, Bool.and_self]
end

/-! ### what stands for data -/
/-- the object of a dict with the keys ks, the values ws -/
def DictH (o : HO) (ks : List DK) (ws : List V) : Prop := ks.length = ws.length ∧ ((∃ cs : List (List Nat), ks = cs.map .s ∧ o = .dK ((cs.map fun c => (Sum.inr ⟨c.toArray⟩ : Key)).zip ws)) ∨
  ∃ ns : List (List Int), ks = ns.map .t ∧ o = .dT ((ns.map fun n => n.map fun i => (Sum.inl i : Key)).zip ws))
mutual
inductive Dat (K : PySem.W.Frag) (H : Hp) : V → PV → Prop
  | n : Dat K H .non .n
  | b (x : Bool) : Dat K H (.bl x) (.b x)
  | i (x : Int) : Dat K H (.int x) (.i x)
  | s (cs : List Nat) : Dat K H (.str ⟨cs.toArray⟩) (.s cs)
  | t {a : Addr} {vs : List V} {xs : List PV} : H a = some (.tup vs) → Dats K H vs xs → Dat K H (.ref a) (.t xs)
  | l {a : Addr} {vs : List V} {xs : List PV} : H a = some (.lst vs) → Dats K H vs xs → Dat K H (.ref a) (.l xs)
  | z {a : Addr} (ns : List Int) : SqL K H a (ns.map V.int) → Dat K H (.ref a) (.z ns)
  | q {a : Addr} {o : HO} {ks : List DK} {ws : List V} {xs : List PV} : H a = some o → DictH o ks ws → Dats K H ws xs → Dat K H (.ref a) (.q ks xs)
inductive Dats (K : PySem.W.Frag) (H : Hp) : List V → List PV → Prop
  | nil : Dats K H [] []
  | cons {v : V} {vs : List V} {x : PV} {xs : List PV} : Dat K H v x → Dats K H vs xs → Dats K H (v :: vs) (x :: xs)
end
theorem Same.seqT {K : PySem.W.Frag} {H H' : Hp} {a : Addr} {xs : List V} (e : Same H H') (h : SqT K H a xs) : SqT K H' a xs := by
  rcases h with (h | ⟨o, h⟩) | h
  · exact .inl (.inl (e _ _ h))
  · exact .inl (.inr ⟨o, e _ _ h⟩)
  · exact .inr h
mutual
theorem Dat.mono {K : PySem.W.Frag} {H H' : Hp} (e : Same H H') : ∀ {v : V} {x : PV}, Dat K H v x → Dat K H' v x
  | _, _, .n => .n
  | _, _, .b x => .b x
  | _, _, .i x => .i x
  | _, _, .s x => .s x
  | _, _, .t h hs => .t (e _ _ h) (Dats.mono e hs)
  | _, _, .l h hs => .l (e _ _ h) (Dats.mono e hs)
  | _, _, .z ns h => .z ns (e.seq h)
  | _, _, .q h hd hs => .q (e _ _ h) hd (Dats.mono e hs)
theorem Dats.mono {K : PySem.W.Frag} {H H' : Hp} (e : Same H H') : ∀ {vs : List V} {xs : List PV}, Dats K H vs xs → Dats K H' vs xs
  | _, _, .nil => .nil
  | _, _, .cons h hs => .cons (Dat.mono e h) (Dats.mono e hs)
end
theorem dp_ints {K : PySem.W.Frag} {H : Hp} : ∀ ns : List Int, DpAll K H (ns.map V.int) (ns.map PyData.int)
  | [] => .nil
  | n :: ns => .cons (.int n) (dp_ints ns)
mutual
theorem Dat.dp {K : PySem.W.Frag} {H : Hp} : ∀ {v : V} {x : PV}, Dat K H v x → dep x < 1000 → Dp K H v (toPy x)
  | _, _, .n, _ => by simp only [toPy]; exact .non
  | _, _, .b x, _ => by simp only [toPy]; exact .bl x
  | _, _, .i x, _ => by simp only [toPy]; exact .int x
  | _, _, .s x, _ => by simp only [toPy]; exact .str _
  | _, _, .t h hs, q => by
    simp only [dep] at q
    simp only [toPy]
    exact .tup (SqT.of h) (Dats.dp hs (by omega))
  | _, _, .l h hs, q => by
    simp only [dep] at q
    simp only [toPy]
    exact .lst (SqL.of h) (Dats.dp hs (by omega))
  | _, _, .z ns h, _ => by simp only [toPy]; exact .lst h (dp_ints ns)
  | _, _, .q _ _ _, q => by simp only [dep] at q; omega
theorem Dats.dp {K : PySem.W.Frag} {H : Hp} : ∀ {vs : List V} {xs : List PV}, Dats K H vs xs → deps xs < 1000 → DpAll K H vs (toPys xs)
  | _, _, .nil, _ => by simp only [toPys]; exact .nil
  | _, _, .cons h hs, q => by
    simp only [deps] at q
    simp only [toPys]
    exact .cons (Dat.dp h (by omega)) (Dats.dp hs (by omega))
end
section
variable {K : PySem.W.Frag} {H : Hp}
theorem Dats.length : ∀ {vs : List V} {xs : List PV}, Dats K H vs xs → vs.length = xs.length
  | _, _, .nil => rfl
  | _, _, .cons _ t => by simp [Dats.length t]
theorem Dats.get : ∀ {vs : List V} {xs : List PV} {i : Nat} {x : PV}, Dats K H vs xs → xs[i]? = some x → ∃ v, vs[i]? = some v ∧ Dat K H v x
  | _, _, _, _, .nil, e => by simp at e
  | _, _, 0, _, .cons r _, e => by simp at e; subst e; exact ⟨_, rfl, r⟩
  | _, _, i + 1, x, .cons _ t, e => by
    obtain ⟨u, h1, h2⟩ := Dats.get (i := i) (x := x) t (by simpa using e)
    exact ⟨u, by simpa using h1, h2⟩
theorem Dats.get' : ∀ {vs : List V} {xs : List PV} {i : Nat} {v : V}, Dats K H vs xs → vs[i]? = some v → ∃ x, xs[i]? = some x ∧ Dat K H v x
  | _, _, _, _, .nil, e => by simp at e
  | _, _, 0, _, .cons r _, e => by simp at e; subst e; exact ⟨_, rfl, r⟩
  | _, _, i + 1, v, .cons _ t, e => by
    obtain ⟨u, h1, h2⟩ := Dats.get' (i := i) (v := v) t (by simpa using e)
    exact ⟨u, by simpa using h1, h2⟩
theorem Dats.append : ∀ {vs ws : List V} {xs ys : List PV}, Dats K H vs xs → Dats K H ws ys → Dats K H (vs ++ ws) (xs ++ ys)
  | _, _, _, _, .nil, s => s
  | _, _, _, _, .cons r t, s => .cons r (Dats.append t s)
theorem Dats.snoc {vs : List V} {v : V} {xs : List PV} {x : PV} (h : Dats K H vs xs) (g : Dat K H v x) : Dats K H (vs ++ [v]) (xs ++ [x]) := h.append (.cons g .nil)
theorem Dats.take : ∀ {vs : List V} {xs : List PV} (k : Nat), Dats K H vs xs → Dats K H (vs.take k) (xs.take k)
  | _, _, 0, _ => .nil
  | _, _, _ + 1, .nil => .nil
  | _, _, k + 1, .cons r t => .cons r (Dats.take k t)
theorem Dats.drop : ∀ {vs : List V} {xs : List PV} (k : Nat), Dats K H vs xs → Dats K H (vs.drop k) (xs.drop k)
  | _, _, 0, r => r
  | _, _, _ + 1, .nil => .nil
  | _, _, k + 1, .cons _ t => Dats.drop k t
theorem Dats.set : ∀ {vs : List V} {xs : List PV} {v : V} {x : PV} (k : Nat), Dats K H vs xs → Dat K H v x → Dats K H (vs.set k v) (xs.set k x)
  | _, _, _, _, _, .nil, _ => .nil
  | _, _, _, _, 0, .cons _ t, g => .cons g t
  | _, _, _, _, k + 1, .cons r t, g => .cons r (Dats.set k t g)
theorem Dats.reverse : ∀ {vs : List V} {xs : List PV}, Dats K H vs xs → Dats K H vs.reverse xs.reverse
  | _, _, .nil => .nil
  | _, _, .cons r t => by
    rw [List.reverse_cons, List.reverse_cons]
    exact (Dats.reverse t).snoc r
theorem Dats.ints : ∀ {vs : List V} {ns : List Int}, Dats K H vs (ns.map PV.i) → vs = ns.map V.int
  | _, [], .nil => rfl
  | _, n :: ns, .cons r t => by
    cases r
    rw [Dats.ints t]
    rfl
theorem Dats.of_ints : ∀ ns : List Int, Dats K H (ns.map V.int) (ns.map PV.i)
  | [] => .nil
  | n :: ns => .cons (.i n) (Dats.of_ints ns)
theorem Dats.bls : ∀ {vs : List V} {ns : List Bool}, Dats K H vs (ns.map PV.b) → vs = ns.map V.bl
  | _, [], .nil => rfl
  | _, n :: ns, .cons r t => by
    cases r
    rw [Dats.bls t]
    rfl
theorem Dats.strs : ∀ {vs : List V} {ns : List (List Nat)}, Dats K H vs (ns.map PV.s) → vs = ns.map fun cs => V.str ⟨cs.toArray⟩
  | _, [], .nil => rfl
  | _, n :: ns, .cons r t => by
    cases r
    rw [Dats.strs t]
    rfl
end
end DD
/-! slots, states, what an expression gives -/
namespace DD
open PySem PySem.Spec L2

/-- an error that a def of the program may let out -/
abbrev Err := Nat
/-- a slot: nothing known; data; a list that is written; a list of lists that are written; a dict that is written; a dict of lists that are written; an exception that is handled -/
inductive Sl1 where
  | u | d (x : PV) | m (xs : List PV) | g (xss : List (List PV)) | q (ks : List DK) (xs : List PV) | h (ks : List DK) (xss : List (List PV)) | x (c : Err)
abbrev Sl := List Sl1
/-- what an expression gives: data, a list that a slot holds, a new list; an error -/
inductive ER where
  | d (z : PV) | m (zs : List PV) | f (zs : List PV) | e (c : Err)
def ER.val : ER → Bool
  | .e _ => false
  | _ => true
def ER.pv : ER → PV
  | .d x => x
  | .m xs => .l xs
  | .f xs => .l xs
  | .e _ => .n

structure Gr (F H F' H' : Hp) : Prop where
  f : Same F F'
  h : Same H H'
  s : Same F' H'
  o : ∀ a o, F' a = some o → F a = some o ∨ H a = none
theorem Gr.refl {F H : Hp} (h : Same F H) : Gr F H F H := ⟨Same.refl F, Same.refl H, h, fun _ _ e => .inl e⟩
theorem Gr.trans {F H F1 H1 F2 H2 : Hp} (a : Gr F H F1 H1) (b : Gr F1 H1 F2 H2) : Gr F H F2 H2 :=
  ⟨a.f.trans b.f, a.h.trans b.h, b.s, fun c o e => by
    rcases b.o c o e with h | h
    · exact a.o c o h
    · exact .inr (a.h.free h)⟩
theorem same_new {H : Hp} {p : Addr} {o : HO} (h : H p = none) : Same H (upd H p o) := fun b x e => by
  rw [upd_ne (ne_of_none e h)]
  exact e
/-- a new object beside what stands -/
theorem Gr.new {F H : Hp} {p : Addr} {o : HO} (s : Same F H) (h : H p = none) : Gr F H F (upd H p o) :=
  ⟨Same.refl F, same_new h, s.trans (same_new h), fun _ _ e => .inl e⟩
/-- .. that is data from now on -/
theorem Gr.put {F H : Hp} {p : Addr} {o : HO} (s : Same F H) (h : H p = none) : Gr F H (upd F p o) (upd H p o) :=
  have hF : F p = none := s.free h
  ⟨same_new hF, same_new h, fun b x e => by
    by_cases hb : b = p
    · subst hb; rw [upd_same] at e; rw [upd_same]; exact e
    · rw [upd_ne hb] at e; rw [upd_ne hb]; exact s b x e, fun a o' e => by
    by_cases hb : a = p
    · subst hb; exact .inr h
    · rw [upd_ne hb] at e; exact .inl e⟩

/-- a value's standing: data, or a list that a slot holds -/
def Val (K : PySem.W.Frag) (F H : Hp) (v : V) (x : PV) : Prop :=
  Dat K F v x ∨ ∃ p vs xs, v = .ref p ∧ x = .l xs ∧ H p = some (.lst vs) ∧ Dats K F vs xs
theorem Val.dat {K : PySem.W.Frag} {F H : Hp} {v : V} {x : PV} (s : Same F H) (h : Val K F H v x) : Dat K H v x := by
  rcases h with h | ⟨p, vs, xs, rfl, rfl, h, hs⟩
  · exact h.mono s
  · exact .l h (hs.mono s)
theorem Val.up {K : PySem.W.Frag} {F H F' H' : Hp} {v : V} {x : PV} (g : Gr F H F' H') (h : Val K F H v x) : Val K F' H' v x := by
  rcases h with h | ⟨p, vs, xs, rfl, rfl, h, hs⟩
  · exact .inl (h.mono g.f)
  · exact .inr ⟨p, vs, xs, rfl, rfl, g.h _ _ h, hs.mono g.f⟩
/-- what an expression's value is: H the heap ahead of it -/
def VOk (K : PySem.W.Frag) (H F' H' : Hp) (v : V) : ER → Prop
  | .d x => Dat K F' v x
  | .m xs => ∃ p vs, v = .ref p ∧ H' p = some (.lst vs) ∧ Dats K F' vs xs
  | .f xs => ∃ p vs, v = .ref p ∧ H p = none ∧ F' p = none ∧ H' p = some (.lst vs) ∧ Dats K F' vs xs
  | .e _ => False
theorem VOk.va {K : PySem.W.Frag} {H F' H' : Hp} {v : V} {r : ER} (h : VOk K H F' H' v r) : Val K F' H' v r.pv := by
  cases r with
  | d x => exact .inl h
  | m xs => obtain ⟨p, vs, rfl, h1, h2⟩ := h; exact .inr ⟨p, vs, xs, rfl, rfl, h1, h2⟩
  | f xs => obtain ⟨p, vs, rfl, _, _, h1, h2⟩ := h; exact .inr ⟨p, vs, xs, rfl, rfl, h1, h2⟩
  | e c => exact h.elim
theorem VOk.up {K : PySem.W.Frag} {H F1 H1 F2 H2 : Hp} {v : V} {r : ER} (g : Gr F1 H1 F2 H2) (h : VOk K H F1 H1 v r) : VOk K H F2 H2 v r := by
  cases r with
  | d x => exact h.mono g.f
  | m xs => obtain ⟨p, vs, rfl, h1, h2⟩ := h; exact ⟨p, vs, rfl, g.h _ _ h1, h2.mono g.f⟩
  | f xs =>
    obtain ⟨p, vs, rfl, h0, hf, h1, h2⟩ := h
    refine ⟨p, vs, rfl, h0, ?_, g.h _ _ h1, h2.mono g.f⟩
    cases e : F2 p with
    | none => rfl
    | some o =>
      rcases g.o p o e with h | h
      · rw [hf] at h; cases h
      · rw [h1] at h; cases h
  | e c => exact h.elim
theorem VOk.back {K : PySem.W.Frag} {H0 H F' H' : Hp} {v : V} {r : ER} (e : Same H0 H) (h : VOk K H F' H' v r) : VOk K H0 F' H' v r := by
  cases r with
  | d x => exact h
  | m xs => exact h
  | f xs => obtain ⟨p, vs, rfl, h0, h1⟩ := h; exact ⟨p, vs, rfl, e.free h0, h1⟩
  | e c => exact h

/-- lists of data at ps -/
def Lists (K : PySem.W.Frag) (F H : Hp) : List Addr → List (List PV) → Prop
  | [], [] => True
  | p :: ps, xs :: xss => (∃ vs, H p = some (.lst vs) ∧ Dats K F vs xs) ∧ Lists K F H ps xss
  | _, _ => False
/-- what a written slot's value v stands for; B: the objects that it owns -/
def Own (K : PySem.W.Frag) (F H : Hp) (v : V) (B : List Addr) : Sl1 → Prop
  | .m xs => ∃ p vs, v = .ref p ∧ B = [p] ∧ H p = some (.lst vs) ∧ Dats K F vs xs
  | .g xss => ∃ p ps, v = .ref p ∧ B = p :: ps ∧ (p :: ps).Nodup ∧ H p = some (.lst (ps.map V.ref)) ∧ Lists K F H ps xss
  | .q ks xs => ∃ p o ws, v = .ref p ∧ B = [p] ∧ H p = some o ∧ DictH o ks ws ∧ Dats K F ws xs
  | .h ks xss => ∃ p o ps, v = .ref p ∧ B = p :: ps ∧ (p :: ps).Nodup ∧ H p = some o ∧ DictH o ks (ps.map V.ref) ∧ Lists K F H ps xss
  | _ => False
def Sl1.isW : Sl1 → Bool
  | .m _ => true
  | .g _ => true
  | .q _ _ => true
  | .h _ _ => true
  | _ => false
theorem Lists.up {K : PySem.W.Frag} {F H F' H' : Hp} (f : Same F F') (h : Same H H') : ∀ {ps : List Addr} {xss : List (List PV)}, Lists K F H ps xss → Lists K F' H' ps xss
  | [], [], _ => True.intro
  | _ :: _, _ :: _, ⟨⟨vs, h1, h2⟩, r⟩ => ⟨⟨vs, h _ _ h1, h2.mono f⟩, Lists.up f h r⟩
  | [], _ :: _, r => r.elim
  | _ :: _, [], r => r.elim
theorem Lists.length {K : PySem.W.Frag} {F H : Hp} : ∀ {ps : List Addr} {xss : List (List PV)}, Lists K F H ps xss → ps.length = xss.length
  | [], [], _ => rfl
  | _ :: _, _ :: _, ⟨_, r⟩ => by simp [Lists.length r]
  | [], _ :: _, r => r.elim
  | _ :: _, [], r => r.elim
theorem Lists.some {K : PySem.W.Frag} {F H : Hp} : ∀ {ps : List Addr} {xss : List (List PV)} {a : Addr}, Lists K F H ps xss → a ∈ ps → H a ≠ none
  | [], _, _, _, h => by cases h
  | p :: ps, xs :: xss, a, ⟨⟨vs, h1, _⟩, r⟩, h => by
    rcases List.mem_cons.mp h with rfl | h
    · rw [h1]; simp
    · exact Lists.some r h
  | _ :: _, [], _, r, _ => r.elim
theorem Own.up {K : PySem.W.Frag} {F H F' H' : Hp} {v : V} {B : List Addr} (f : Same F F') (h : Same H H') : ∀ {s : Sl1}, Own K F H v B s → Own K F' H' v B s
  | .m xs, ⟨p, vs, e1, e2, e3, e4⟩ => ⟨p, vs, e1, e2, h _ _ e3, e4.mono f⟩
  | .g xss, ⟨p, ps, e1, e2, e3, e4, e5⟩ => ⟨p, ps, e1, e2, e3, h _ _ e4, e5.up f h⟩
  | .q ks xs, ⟨p, o, ws, e1, e2, e3, e4, e5⟩ => ⟨p, o, ws, e1, e2, h _ _ e3, e4, e5.mono f⟩
  | .h ks xss, ⟨p, o, ps, e1, e2, e3, e4, e5, e6⟩ => ⟨p, o, ps, e1, e2, e3, h _ _ e4, e5, e6.up f h⟩
  | .u, z => z.elim
  | .d _, z => z.elim
  | .x _, z => z.elim
theorem Own.live {K : PySem.W.Frag} {F H : Hp} {v : V} {B : List Addr} {a : Addr} (ha : a ∈ B) : ∀ {s : Sl1}, Own K F H v B s → H a ≠ none
  | .m xs, ⟨p, vs, e1, e2, e3, e4⟩ => by
    subst e2
    rw [List.mem_singleton.mp ha, e3]; simp
  | .g xss, ⟨p, ps, e1, e2, e3, e4, e5⟩ => by
    subst e2
    rcases List.mem_cons.mp ha with rfl | h
    · rw [e4]; simp
    · exact e5.some h
  | .q ks xs, ⟨p, o, ws, e1, e2, e3, e4, e5⟩ => by
    subst e2
    rw [List.mem_singleton.mp ha, e3]; simp
  | .h ks xss, ⟨p, o, ps, e1, e2, e3, e4, e5, e6⟩ => by
    subst e2
    rcases List.mem_cons.mp ha with rfl | h
    · rw [e4]; simp
    · exact e6.some h
  | .u, z => z.elim
  | .d _, z => z.elim
  | .x _, z => z.elim
theorem Lists.off {K : PySem.W.Frag} {F H F' H' : Hp} (f : Same F F') : ∀ {ps : List Addr} {xss : List (List PV)}, (∀ a ∈ ps, H' a = H a) → Lists K F H ps xss → Lists K F' H' ps xss
  | [], [], _, _ => True.intro
  | p :: _, _ :: _, h, ⟨⟨vs, h1, h2⟩, r⟩ => ⟨⟨vs, by rw [h p (by simp)]; exact h1, h2.mono f⟩, Lists.off f (fun a ha => h a (List.mem_cons_of_mem _ ha)) r⟩
  | [], _ :: _, _, r => r.elim
  | _ :: _, [], _, r => r.elim
theorem Own.off {K : PySem.W.Frag} {F H F' H' : Hp} {v : V} {B : List Addr} (f : Same F F') (h : ∀ a ∈ B, H' a = H a) : ∀ {s : Sl1}, Own K F H v B s → Own K F' H' v B s
  | .m xs, ⟨p, vs, e1, e2, e3, e4⟩ => by subst e2; exact ⟨p, vs, e1, rfl, by rw [h p (by simp)]; exact e3, e4.mono f⟩
  | .g xss, ⟨p, ps, e1, e2, e3, e4, e5⟩ => by subst e2; exact ⟨p, ps, e1, rfl, e3, by rw [h p (by simp)]; exact e4, e5.off f fun a ha => h a (List.mem_cons_of_mem _ ha)⟩
  | .q ks xs, ⟨p, o, ws, e1, e2, e3, e4, e5⟩ => by subst e2; exact ⟨p, o, ws, e1, rfl, by rw [h p (by simp)]; exact e3, e4, e5.mono f⟩
  | .h ks xss, ⟨p, o, ps, e1, e2, e3, e4, e5, e6⟩ => by subst e2; exact ⟨p, o, ps, e1, rfl, e3, by rw [h p (by simp)]; exact e4, e5, e6.off f fun a ha => h a (List.mem_cons_of_mem _ ha)⟩
  | .u, z => z.elim
  | .d _, z => z.elim
  | .x _, z => z.elim

/-- the slots stand for ρ: H0 the heap at the def's entry -/
structure Rep (K : PySem.W.Frag) (CA : Err → Addr) (H0 F H : Hp) (σ : St) (ρ : Sl) : Prop where
  len : σ.length = ρ.length
  sub : Same F H
  dat : ∀ (i : Nat) x, ρ[i]? = some (.d x) → ∃ v, σ[i]? = some (some v) ∧ Dat K F v x
  exn : ∀ (i : Nat) c, ρ[i]? = some (.x c) → σ[i]? = some (some (.ref (CA 0)))
  ow : ∃ A : Nat → List Addr, (∀ i a, a ∈ A i → H a ≠ none ∧ F a = none ∧ H0 a = none) ∧ (∀ i j a, a ∈ A i → a ∈ A j → i = j) ∧
    ∀ (i : Nat) s, ρ[i]? = some s → s.isW = true → ∃ v, σ[i]? = some (some v) ∧ Own K F H v (A i) s
theorem set_get {α : Type} {l : List α} {i j : Nat} {a b : α} (h : (l.set i a)[j]? = some b) : (i = j ∧ b = a ∧ i < l.length) ∨ (i ≠ j ∧ l[j]? = some b) := by
  rw [List.getElem?_set] at h
  by_cases e : i = j
  · subst e
    rw [if_pos rfl] at h
    by_cases hl : i < l.length
    · rw [if_pos hl] at h
      exact .inl ⟨rfl, (Option.some.inj h).symm, hl⟩
    · rw [if_neg hl] at h; cases h
  · rw [if_neg e] at h
    exact .inr ⟨e, h⟩
theorem set_at {α : Type} {l : List α} {i : Nat} {a : α} (h : i < l.length) : (l.set i a)[i]? = some a := by simp [h]
theorem set_off {α : Type} {l : List α} {i j : Nat} {a : α} (h : i ≠ j) : (l.set i a)[j]? = l[j]? := by simp [List.getElem?_set, h]
theorem refs_inj : ∀ {ps qs : List Addr}, ps.map V.ref = qs.map V.ref → ps = qs
  | [], [], _ => rfl
  | p :: ps, q :: qs, h => by
    simp at h
    rw [h.1, refs_inj h.2]
  | [], _ :: _, h => by simp at h
  | _ :: _, [], h => by simp at h
theorem zip_snd {α β : Type} : ∀ {l : List α} {m m' : List β}, l.length = m.length → l.length = m'.length → l.zip m = l.zip m' → m = m'
  | [], [], [], _, _, _ => rfl
  | a :: l, b :: m, c :: m', h1, h2, h => by
    simp at h
    rw [h.1, zip_snd (by simpa using h1) (by simpa using h2) h.2]
  | [], _ :: _, _, h, _, _ => by simp at h
  | [], [], _ :: _, _, h, _ => by simp at h
  | _ :: _, [], _, h, _, _ => by simp at h
  | _ :: _, _ :: _, [], _, h, _ => by simp at h
theorem map_inj_s : ∀ {a b : List (List Nat)}, a.map DK.s = b.map DK.s → a = b
  | [], [], _ => rfl
  | x :: a, y :: b, h => by
    simp at h
    rw [h.1, map_inj_s h.2]
  | [], _ :: _, h => by simp at h
  | _ :: _, [], h => by simp at h
theorem map_inj_t : ∀ {a b : List (List Int)}, a.map DK.t = b.map DK.t → a = b
  | [], [], _ => rfl
  | x :: a, y :: b, h => by
    simp at h
    rw [h.1, map_inj_t h.2]
  | [], _ :: _, h => by simp at h
  | _ :: _, [], h => by simp at h
theorem DictH.det {o : HO} {ks : List DK} {ws ws' : List V} (h : DictH o ks ws) (h' : DictH o ks ws') : ws = ws' := by
  obtain ⟨l, h⟩ := h
  obtain ⟨l', h'⟩ := h'
  rcases h with ⟨cs, e1, e2⟩ | ⟨ns, e1, e2⟩ <;> rcases h' with ⟨cs', f1, f2⟩ | ⟨ns', f1, f2⟩
  · have := map_inj_s (e1.symm.trans f1)
    subst this
    have e := e2.symm.trans f2
    injection e with e
    have k : (cs.map fun c => (Sum.inr ⟨c.toArray⟩ : Key)).length = ks.length := by rw [e1]; simp
    exact zip_snd (by rw [k]; exact l) (by rw [k]; exact l') e
  · have e := e2.symm.trans f2
    cases e
  · have e := e2.symm.trans f2
    cases e
  · have := map_inj_t (e1.symm.trans f1)
    subst this
    have e := e2.symm.trans f2
    injection e with e
    have k : (ns.map fun n => n.map fun i => (Sum.inl i : Key)).length = ks.length := by rw [e1]; simp
    exact zip_snd (by rw [k]; exact l) (by rw [k]; exact l') e
/-- what is owned is told by the value -/
theorem Own.det {K : PySem.W.Frag} {F H F' H' : Hp} {v : V} {B B' : List Addr} (hs : Same H H') : ∀ {s : Sl1}, Own K F H v B s → Own K F' H' v B' s → B' = B
  | .m xs, ⟨p, vs, e1, e2, e3, e4⟩, ⟨p', vs', f1, f2, f3, f4⟩ => by
    subst e1; cases f1; rw [e2, f2]
  | .g xss, ⟨p, ps, e1, e2, e3, e4, e5⟩, ⟨p', ps', f1, f2, f3, f4, f5⟩ => by
    subst e1; cases f1
    have := hs _ _ e4
    rw [f4] at this
    injection this with this
    injection this with this
    rw [e2, f2, refs_inj this]
  | .q ks xs, ⟨p, o, ws, e1, e2, e3, e4, e5⟩, ⟨p', o', ws', f1, f2, f3, f4, f5⟩ => by
    subst e1; cases f1; rw [e2, f2]
  | .h ks xss, ⟨p, o, ps, e1, e2, e3, e4, e5, e6⟩, ⟨p', o', ps', f1, f2, f3, f4, f5, f6⟩ => by
    subst e1; cases f1
    have := hs _ _ e4
    rw [f4] at this
    injection this with this
    subst this
    rw [e2, f2, refs_inj (DictH.det f5 e5)]
  | .u, z, _ => z.elim
  | .d _, z, _ => z.elim
  | .x _, z, _ => z.elim
variable {K : PySem.W.Frag} {CA : Err → Addr} {H0 F H F' H' : Hp} {σ σ' : St} {ρ ρ' : Sl} {i : Nat} {v : V} {x : PV} {xs : List PV}
theorem Rep.up (R : Rep K CA H0 F H σ ρ) (g : Gr F H F' H') : Rep K CA H0 F' H' σ ρ where
  len := R.len
  sub := g.s
  dat := fun i x e => by
    obtain ⟨v, h1, h2⟩ := R.dat i x e
    exact ⟨v, h1, h2.mono g.f⟩
  exn := R.exn
  ow := by
    obtain ⟨A, h1, h2, h3⟩ := R.ow
    refine ⟨A, fun i a ha => ?_, h2, fun i s e w => ?_⟩
    · obtain ⟨n1, n2, n3⟩ := h1 i a ha
      refine ⟨fun z => n1 (g.h.free z), ?_, n3⟩
      cases e : F' a with
      | none => rfl
      | some o =>
        rcases g.o a o e with h | h
        · rw [n2] at h; cases h
        · exact absurd h n1
    · obtain ⟨v, e1, e2⟩ := h3 i s e w
      exact ⟨v, e1, e2.up g.f g.h⟩
/-- slot i's owner changes: its old objects are let go -/
def upA (A : Nat → List Addr) (i : Nat) (B : List Addr) : Nat → List Addr := fun j => if j = i then B else A j
theorem upA_same {A : Nat → List Addr} {B : List Addr} : upA A i B i = B := by simp [upA]
theorem upA_ne {A : Nat → List Addr} {B : List Addr} {j : Nat} (h : j ≠ i) : upA A i B j = A j := by simp [upA, h]
theorem Rep.setd (R : Rep K CA H0 F H σ ρ) (h : Dat K F v x) : Rep K CA H0 F H (σ.set i (some v)) (ρ.set i (.d x)) where
  len := by simp [R.len]
  sub := R.sub
  dat := fun j y e => by
    rcases set_get e with ⟨rfl, e2, hl⟩ | ⟨hn, e2⟩
    · cases e2
      exact ⟨v, set_at (by rw [R.len]; exact hl), h⟩
    · obtain ⟨w, h1, h2⟩ := R.dat j y e2
      exact ⟨w, by rw [set_off hn]; exact h1, h2⟩
  exn := fun j c e => by
    rcases set_get e with ⟨rfl, e2, hl⟩ | ⟨hn, e2⟩
    · cases e2
    · rw [set_off hn]; exact R.exn j c e2
  ow := by
    obtain ⟨A, h1, h2, h3⟩ := R.ow
    refine ⟨A, h1, h2, fun j s e w => ?_⟩
    rcases set_get e with ⟨rfl, e2, hl⟩ | ⟨hn, e2⟩
    · subst e2; cases w
    · obtain ⟨w, e1, e2⟩ := h3 j s e2 w
      exact ⟨w, by rw [set_off hn]; exact e1, e2⟩
/-- a new owned thing into slot i -/
theorem Rep.setw {s : Sl1} {B : List Addr} (R : Rep K CA H0 F H σ ρ) (hw : s.isW = true) (h : Own K F H v B s) (hB : ∀ a ∈ B, F a = none ∧ H0 a = none) (hn : ∀ A : Nat → List Addr, (∀ i s, ρ[i]? = some s → s.isW = true → ∃ v, σ[i]? = some (some v) ∧ Own K F H v (A i) s) → (∀ i a, a ∈ A i → H a ≠ none ∧ F a = none ∧ H0 a = none) → ∃ A' : Nat → List Addr, (∀ i a, a ∈ A' i → a ∈ A i) ∧ (∀ i s, ρ[i]? = some s → s.isW = true → A' i = A i) ∧ ∀ j a, a ∈ B → a ∉ A' j) :
    Rep K CA H0 F H (σ.set i (some v)) (ρ.set i s) where
  len := by simp [R.len]
  sub := R.sub
  dat := fun j y e => by
    rcases set_get e with ⟨rfl, e2, hl⟩ | ⟨hn, e2⟩
    · subst e2; cases hw
    · obtain ⟨w, h1, h2⟩ := R.dat j y e2
      exact ⟨w, by rw [set_off hn]; exact h1, h2⟩
  exn := fun j c e => by
    rcases set_get e with ⟨rfl, e2, hl⟩ | ⟨hn, e2⟩
    · subst e2; cases hw
    · rw [set_off hn]; exact R.exn j c e2
  ow := by
    obtain ⟨A, h1, h2, h3⟩ := R.ow
    obtain ⟨A', g1, g2, g3⟩ := hn A h3 h1
    refine ⟨upA A' i B, fun j a ha => ?_, fun j k a ha hb => ?_, fun j t e w => ?_⟩
    · by_cases hj : j = i
      · subst hj
        rw [upA_same] at ha
        exact ⟨h.live ha, hB a ha⟩
      · rw [upA_ne hj] at ha
        exact h1 j a (g1 j a ha)
    · by_cases hj : j = i
      · by_cases hk : k = i
        · rw [hj, hk]
        · subst hj
          rw [upA_same] at ha
          rw [upA_ne hk] at hb
          exact absurd hb (g3 k a ha)
      · by_cases hk : k = i
        · subst hk
          rw [upA_same] at hb
          rw [upA_ne hj] at ha
          exact absurd ha (g3 j a hb)
        · rw [upA_ne hj] at ha
          rw [upA_ne hk] at hb
          exact h2 j k a (g1 j a ha) (g1 k a hb)
    · rcases set_get e with ⟨rfl, e2, hl⟩ | ⟨hn, e2⟩
      · subst e2
        rw [upA_same]
        exact ⟨v, set_at (by rw [R.len]; exact hl), h⟩
      · rw [upA_ne (fun z => hn z.symm), g2 j t e2 w, set_off hn]
        exact h3 j t e2 w
/-- .. whose objects are new, or were nobody's -/
theorem Rep.setw' {s : Sl1} {B : List Addr} (R : Rep K CA H0 F H σ ρ) (hw : s.isW = true) (h : Own K F H v B s) (hB : ∀ a ∈ B, F a = none ∧ H0 a = none)
    (hn : ∀ (j : Nat) t A w, ρ[j]? = some t → t.isW = true → σ[j]? = some (some w) → Own K F H w A t → ∀ a ∈ B, a ∉ A) : Rep K CA H0 F H (σ.set i (some v)) (ρ.set i s) := by
  refine R.setw hw h hB fun A h3 h1 => ?_
  refine ⟨fun j => if (ρ[j]?.elim false Sl1.isW) = true then A j else [], fun j a ha => ?_, fun j t e w => ?_, fun j a ha hb => ?_⟩
  · dsimp only at ha
    split at ha
    · exact ha
    · cases ha
  · dsimp only
    rw [if_pos (by rw [e]; exact w)]
  · dsimp only at hb
    split at hb
    · rename_i hw2
      cases e : ρ[j]? with
      | none => rw [e] at hw2; cases hw2
      | some t =>
        rw [e] at hw2
        obtain ⟨w, e1, e2⟩ := h3 j t e hw2
        exact hn j t _ w e hw2 e1 e2 a ha hb
    · cases hb
/-- new addresses are no slot's -/
theorem Rep.setn {s : Sl1} {B : List Addr} {Hb : Hp} (R : Rep K CA H0 F H σ ρ) (hw : s.isW = true) (h : Own K F H v B s) (hB : ∀ a ∈ B, F a = none ∧ H0 a = none) (Rb : ∃ Fb, Rep K CA H0 Fb Hb σ ρ) (hn : ∀ a ∈ B, Hb a = none) (hs : Same Hb H) : Rep K CA H0 F H (σ.set i (some v)) (ρ.set i s) := by
  obtain ⟨Fb, Rb⟩ := Rb
  refine R.setw' hw h hB fun j t A w e ht e1 e2 a ha hA => ?_
  obtain ⟨A0, h1, _, h3⟩ := Rb.ow
  obtain ⟨w0, f1, f2⟩ := h3 j t e ht
  rw [f1] at e1
  cases e1
  have e : A = A0 j := Own.det hs f2 e2
  rw [e] at hA
  exact (h1 j a hA).1 (hn a ha)
/-- the owners, none but of slots that own -/
theorem Rep.owc (R : Rep K CA H0 F H σ ρ) : ∃ A : Nat → List Addr, (∀ i a, a ∈ A i → H a ≠ none ∧ F a = none ∧ H0 a = none) ∧ (∀ i j a, a ∈ A i → a ∈ A j → i = j) ∧
    (∀ (i : Nat) s, ρ[i]? = some s → s.isW = true → ∃ v, σ[i]? = some (some v) ∧ Own K F H v (A i) s) ∧ ∀ (i : Nat) a, a ∈ A i → ∃ s, ρ[i]? = some s ∧ s.isW = true := by
  obtain ⟨A, h1, h2, h3⟩ := R.ow
  have hs : ∀ (i : Nat) a, a ∈ (if (ρ[i]?.elim false Sl1.isW) = true then A i else []) → a ∈ A i ∧ ∃ s, ρ[i]? = some s ∧ s.isW = true := fun i a h => by
    split at h
    · rename_i hw
      refine ⟨h, ?_⟩
      cases e : ρ[i]? with
      | none => rw [e] at hw; cases hw
      | some s => rw [e] at hw; exact ⟨s, rfl, hw⟩
    · cases h
  refine ⟨fun i => if (ρ[i]?.elim false Sl1.isW) = true then A i else [], fun i a ha => h1 i a (hs i a ha).1, fun i j a ha hb => h2 i j a (hs i a ha).1 (hs j a hb).1, fun i s e w => ?_, fun i a ha => (hs i a ha).2⟩
  dsimp only
  rw [if_pos (by rw [e]; exact w)]
  exact h3 i s e w
/-- the owned thing of a slot is written; Hb: an earlier heap -/
theorem Rep.writeB (R : Rep K CA H0 F H σ ρ) {Fb Hb : Hp} (Rb : Rep K CA H0 Fb Hb σ ρ) (hbs : Same Hb H) {s : Sl1} (hi : ρ[i]? = some s) (hs : s.isW = true) : ∃ v B, σ[i]? = some (some v) ∧ Own K F H v B s ∧ (∀ a ∈ B, H a ≠ none ∧ F a = none ∧ H0 a = none) ∧
    ∀ F' H' t B', t.isW = true → Same F F' → (∀ a o, H a = some o → a ∉ B → H' a = some o) → Same F' H' → (∀ a o, F' a = some o → F a = some o ∨ H a = none) → Own K F' H' v B' t →
      (∀ a ∈ B', F' a = none ∧ H0 a = none ∧ (a ∈ B ∨ Hb a = none)) → Rep K CA H0 F' H' σ (ρ.set i t) := by
  obtain ⟨A, h1, h2, h3, h4⟩ := R.owc
  obtain ⟨Ab, b1, b2, b3⟩ := Rb.ow
  have hl : ∀ j a, a ∈ A j → Hb a ≠ none := fun j a ha => by
    obtain ⟨t, e, w⟩ := h4 j a ha
    obtain ⟨v1, e1, e2⟩ := h3 j t e w
    obtain ⟨v2, f1, f2⟩ := b3 j t e w
    rw [f1] at e1
    cases e1
    have := Own.det hbs f2 e2
    rw [this] at ha
    exact (b1 j a ha).1
  obtain ⟨v, e1, e2⟩ := h3 i s hi hs
  refine ⟨v, A i, e1, e2, fun a ha => h1 i a ha, fun F' H' t B' ht fF hH fH hFo ho hB => ?_⟩
  refine ⟨by simp [R.len], fH, fun j y e => ?_, fun j c e => ?_, upA A i B', fun j a ha => ?_, fun j k a ha hb => ?_, fun j r e w => ?_⟩
  · rcases set_get e with ⟨rfl, e2, hl⟩ | ⟨hn, e2⟩
    · subst e2; cases ht
    · obtain ⟨w, g1, g2⟩ := R.dat j y e2
      exact ⟨w, g1, g2.mono fF⟩
  · rcases set_get e with ⟨rfl, e2, hl⟩ | ⟨hn, e2⟩
    · subst e2; cases ht
    · exact R.exn j c e2
  · by_cases hj : j = i
    · subst hj
      rw [upA_same] at ha
      exact ⟨ho.live ha, (hB a ha).1, (hB a ha).2.1⟩
    · rw [upA_ne hj] at ha
      obtain ⟨n1, n2, n3⟩ := h1 j a ha
      cases e : H a with
      | none => exact absurd e n1
      | some o =>
        have := hH a o e fun q => hj (h2 j i a ha q)
        refine ⟨by rw [this]; simp, ?_, n3⟩
        cases e' : F' a with
        | none => rfl
        | some o' =>
          rcases hFo a o' e' with q | q
          · rw [n2] at q; cases q
          · exact absurd q n1
  · by_cases hj : j = i
    · by_cases hk : k = i
      · rw [hj, hk]
      · subst hj
        rw [upA_same] at ha
        rw [upA_ne hk] at hb
        rcases (hB a ha).2.2 with q | q
        · exact h2 j k a q hb
        · exact absurd q (hl k a hb)
    · by_cases hk : k = i
      · subst hk
        rw [upA_same] at hb
        rw [upA_ne hj] at ha
        rcases (hB a hb).2.2 with q | q
        · exact h2 j k a ha q
        · exact absurd q (hl j a ha)
      · rw [upA_ne hj] at ha
        rw [upA_ne hk] at hb
        exact h2 j k a ha hb
  · rcases set_get e with ⟨rfl, e3, hl⟩ | ⟨hn, e3⟩
    · subst e3
      rw [upA_same]
      exact ⟨v, e1, ho⟩
    · have hne : j ≠ i := fun z => hn z.symm
      rw [upA_ne hne]
      obtain ⟨w2, g1, g2⟩ := h3 j r e3 w
      refine ⟨w2, g1, g2.off fF fun a ha => ?_⟩
      obtain ⟨n1, _, _⟩ := h1 j a ha
      cases e : H a with
      | none => exact absurd e n1
      | some o => exact hH a o e fun q => hne (h2 j i a ha q)
theorem Rep.write (R : Rep K CA H0 F H σ ρ) {s : Sl1} (hi : ρ[i]? = some s) (hs : s.isW = true) : ∃ v B, σ[i]? = some (some v) ∧ Own K F H v B s ∧ (∀ a ∈ B, H a ≠ none ∧ F a = none ∧ H0 a = none) ∧
    ∀ F' H' t B', t.isW = true → Same F F' → (∀ a o, H a = some o → a ∉ B → H' a = some o) → Same F' H' → (∀ a o, F' a = some o → F a = some o ∨ H a = none) → Own K F' H' v B' t →
      (∀ a ∈ B', F' a = none ∧ H0 a = none ∧ (a ∈ B ∨ H a = none)) → Rep K CA H0 F' H' σ (ρ.set i t) := R.writeB R (Same.refl _) hi hs
/-- .. is data from now on -/
theorem Rep.thaw (R : Rep K CA H0 F H σ ρ) {s : Sl1} (hi : ρ[i]? = some s) (hs : s.isW = true) : ∃ v B, σ[i]? = some (some v) ∧ Own K F H v B s ∧ (∀ a ∈ B, H a ≠ none ∧ F a = none ∧ H0 a = none) ∧
    ∀ x, Dat K (fun a => if a ∈ B then H a else F a) v x → Rep K CA H0 (fun a => if a ∈ B then H a else F a) H σ (ρ.set i (.d x)) := by
  obtain ⟨A, h1, h2, h3⟩ := R.ow
  obtain ⟨v, e1, e2⟩ := h3 i s hi hs
  refine ⟨v, A i, e1, e2, fun a ha => h1 i a ha, fun x hx => ?_⟩
  have fF : Same F (fun a => if a ∈ A i then H a else F a) := fun a o e => by
    dsimp only
    split
    · rename_i ha
      rw [(h1 i a ha).2.1] at e; cases e
    · exact e
  refine ⟨by simp [R.len], fun a o e => ?_, fun j y e => ?_, fun j c e => ?_, upA A i [], fun j a ha => ?_, fun j k a ha hb => ?_, fun j r e w => ?_⟩
  · try dsimp only at e
    split at e
    · exact e
    · exact R.sub a o e
  · rcases set_get e with ⟨rfl, e2, hl⟩ | ⟨hn, e2⟩
    · cases e2
      exact ⟨v, e1, hx⟩
    · obtain ⟨w, g1, g2⟩ := R.dat j y e2
      exact ⟨w, g1, g2.mono fF⟩
  · rcases set_get e with ⟨rfl, e2, hl⟩ | ⟨hn, e2⟩
    · cases e2
    · exact R.exn j c e2
  · by_cases hj : j = i
    · subst hj
      rw [upA_same] at ha
      cases ha
    · rw [upA_ne hj] at ha
      refine ⟨(h1 j a ha).1, ?_, (h1 j a ha).2.2⟩
      try dsimp only
      rw [if_neg fun q => hj (h2 j i a ha q)]
      exact (h1 j a ha).2.1
  · have f : ∀ {l : Nat}, a ∈ upA A i [] l → a ∈ A l := fun {l} h => by
      by_cases hl : l = i
      · subst hl; rw [upA_same] at h; cases h
      · rw [upA_ne hl] at h; exact h
    exact h2 j k a (f ha) (f hb)
  · rcases set_get e with ⟨rfl, e3, hl⟩ | ⟨hn, e3⟩
    · subst e3
      cases w
    · have hne : j ≠ i := fun z => hn z.symm
      rw [upA_ne hne]
      obtain ⟨w2, g1, g2⟩ := h3 j r e3 w
      exact ⟨w2, g1, g2.off fF fun a ha => rfl⟩
/-- forgetting slots -/
theorem Rep.weak (R : Rep K CA H0 F H σ ρ) (hl : σ'.length = ρ'.length) (h : ∀ (i : Nat) s, ρ'[i]? = some s → s = .u ∨ (ρ[i]? = some s ∧ σ'[i]? = σ[i]?)) : Rep K CA H0 F H σ' ρ' where
  len := hl
  sub := R.sub
  dat := fun i x e => by
    rcases h i _ e with h | ⟨h1, h2⟩
    · cases h
    · rw [h2]; exact R.dat i x h1
  exn := fun i x e => by
    rcases h i _ e with h | ⟨h1, h2⟩
    · cases h
    · rw [h2]; exact R.exn i x h1
  ow := by
    obtain ⟨A, g1, g2, g3⟩ := R.ow
    refine ⟨A, g1, g2, fun i s e w => ?_⟩
    rcases h i _ e with h | ⟨h1, h2⟩
    · subst h; cases w
    · rw [h2]; exact g3 i s h1 w
/-! lists -/
theorem Rep.mt {i : Nat} {xs : List PV} (R : Rep K CA H0 F H σ ρ) (hi : ρ[i]? = some (.m xs)) : ∃ p vs, σ[i]? = some (some (.ref p)) ∧ F p = none ∧ H0 p = none ∧ H p = some (.lst vs) ∧ Dats K F vs xs := by
  obtain ⟨v, B, e1, ⟨p, vs, rfl, rfl, h1, h2⟩, hB, _⟩ := R.write hi rfl
  have := hB p (by simp)
  exact ⟨p, vs, e1, this.2.1, this.2.2, h1, h2⟩
/-- the list of a slot is written -/
theorem Rep.wr {p : Addr} {vs : List V} {xs ys : List PV} (R : Rep K CA H0 F H σ ρ) (hi : ρ[i]? = some (.m xs)) (hp : σ[i]? = some (some (.ref p))) (h : Dats K F vs ys) :
    Rep K CA H0 F (upd H p (.lst vs)) σ (ρ.set i (.m ys)) := by
  obtain ⟨v, B, e1, ⟨q, ws, rfl, rfl, h1, h2⟩, hB, k⟩ := R.write hi rfl
  rw [hp] at e1
  cases e1
  have hb := hB p (by simp)
  refine k F (upd H p (.lst vs)) (.m ys) [p] rfl (Same.refl _) (fun a o e n => ?_) (fun a o e => ?_) (fun a o e => .inl e) ⟨p, vs, rfl, rfl, upd_same, h⟩ fun a ha => ?_
  · rw [upd_ne (by simpa using n)]; exact e
  · rw [upd_ne (ne_of_none e hb.2.1)]; exact R.sub a o e
  · rw [List.mem_singleton.mp ha]
    exact ⟨hb.2.1, hb.2.2, .inl (by simp)⟩
/-- a new list -/
theorem Rep.setm {p : Addr} {vs : List V} {xs : List PV} (R : Rep K CA H0 F H σ ρ) (hF : F p = none) (h0 : H0 p = none) (hH : H p = some (.lst vs)) (h : Dats K F vs xs)
    {Hb : Hp} (Rb : ∃ Fb, Rep K CA H0 Fb Hb σ ρ) (hn : Hb p = none) (hs : Same Hb H) : Rep K CA H0 F H (σ.set i (some (.ref p))) (ρ.set i (.m xs)) :=
  R.setn (B := [p]) rfl ⟨p, vs, rfl, rfl, hH, h⟩ (fun a ha => by rw [List.mem_singleton.mp ha]; exact ⟨hF, h0⟩) Rb (fun a ha => by rw [List.mem_singleton.mp ha]; exact hn) hs
/-- a slot's list is data from now on -/
theorem Rep.frz {i : Nat} {xs : List PV} (R : Rep K CA H0 F H σ ρ) (hi : ρ[i]? = some (.m xs)) : ∃ F', Same F F' ∧ (∀ a o, F' a = some o → F a = some o ∨ H0 a = none) ∧ Rep K CA H0 F' H σ (ρ.set i (.d (.l xs))) := by
  obtain ⟨v, B, e1, ⟨p, vs, rfl, rfl, h1, h2⟩, hB, k⟩ := R.thaw hi rfl
  have hb := hB p (by simp)
  have fF : Same F (fun a => if a ∈ [p] then H a else F a) := fun a o e => by
    dsimp only
    rw [if_neg (by simpa using ne_of_none e hb.2.1)]
    exact e
  refine ⟨_, fF, fun a o e => ?_, k (.l xs) (.l (vs := vs) ?_ (h2.mono fF))⟩
  · try dsimp only at e
    split at e
    · rename_i ha
      rw [List.mem_singleton.mp ha]; exact .inr hb.2.2
    · exact .inl e
  · try dsimp only
    rw [if_pos (by simp)]
    exact h1
end DD
/-! expressions -/
namespace DD
open PySem PySem.Spec L2

abbrev CF := Sl → Option ER
def e1 (g : PV → Option ER) : Option ER → Option ER
  | some (.d x) => g x
  | some (.m xs) => g (.l xs)
  | some (.f xs) => g (.l xs)
  | some (.e c) => some (.e c)
  | none => none
/-- the same, for what is kept: no list that a slot still holds -/
def eS (g : PV → Option ER) : Option ER → Option ER
  | some (.d x) => g x
  | some (.f xs) => g (.l xs)
  | some (.e c) => some (.e c)
  | _ => none
section
variable {g : PV → Option ER} {x : PV} {xs : List PV} {c : Err}
@[simp] theorem e1_d : e1 g (some (.d x)) = g x := rfl
@[simp] theorem e1_m : e1 g (some (.m xs)) = g (.l xs) := rfl
@[simp] theorem e1_f : e1 g (some (.f xs)) = g (.l xs) := rfl
@[simp] theorem e1_e : e1 g (some (.e c)) = some (.e c) := rfl
@[simp] theorem e1_n : e1 g none = none := rfl
@[simp] theorem eS_d : eS g (some (.d x)) = g x := rfl
@[simp] theorem eS_m : eS g (some (.m xs)) = none := rfl
@[simp] theorem eS_f : eS g (some (.f xs)) = g (.l xs) := rfl
@[simp] theorem eS_e : eS g (some (.e c)) = some (.e c) := rfl
@[simp] theorem eS_n : eS g none = none := rfl
end

section
variable (K : PySem.W.Frag) (CA : Err → Addr) (W : WX)
def DE (te : TE) (f : CF) : Prop := ∀ (H0 F H : Hp) (σ : L2.St) (ρ : Sl) (r : ER) (Q : VK), Rep K CA H0 F H σ ρ → f ρ = some r →
  (∀ v F' H', Gr F H F' H' → VOk K H F' H' v r → Q v H') → (∀ c, r = .e c → ∀ F' H', Gr F H F' H' → W (.ref (CA c)) none σ H') → te σ H Q
def DT (tt : TT) (f : CF) : Prop := ∀ (H0 F H : Hp) (σ : L2.St) (ρ : Sl) (r : ER) (Q : Bool → Hp → Prop), Rep K CA H0 F H σ ρ → f ρ = some r → ((∃ k, r = .d (.b k)) ∨ ∃ c, r = .e c) →
  (∀ k, r = .d (.b k) → ∀ F' H', Gr F H F' H' → Q k H') → (∀ c, r = .e c → ∀ F' H', Gr F H F' H' → W (.ref (CA c)) none σ H') → tt σ H Q
end
section
variable {K : PySem.W.Frag} {CA : Err → Addr} {W : WX} {te ta tb tc : TE} {tt tu : TT} {f f1 f2 f3 : CF} {H0 F H : Hp} {σ : L2.St} {ρ : Sl} {z : ER} {g : PV → Option ER}
theorem DE.go {Q : VK} (h : DE K CA W te f) (R : Rep K CA H0 F H σ ρ) (hz : e1 g (f ρ) = some z) (he : ∀ c, z = .e c → ∀ F' H', Gr F H F' H' → W (.ref (CA c)) none σ H')
    (k : ∀ x v F' H', Gr F H F' H' → Val K F' H' v x → g x = some z → Q v H') : te σ H Q := by
  cases h1 : f ρ with
  | none => rw [h1] at hz; cases hz
  | some r =>
    rw [h1] at hz
    refine h H0 F H σ ρ r Q R h1 (fun v F' H' gr ok => ?_) fun c e F' H' gr => ?_
    · refine k r.pv v F' H' gr ok.va ?_
      cases r with
      | e c => exact ok.elim
      | _ => exact hz
    · subst e
      exact he c (Option.some.inj hz).symm F' H' gr
/-- what is kept -/
theorem VOk.keep {F' H' : Hp} {v : V} {r : ER} {x : PV} (s : Same F' H') (h : VOk K H F' H' v r) (e : r = .d x ∨ ∃ xs, r = .f xs ∧ x = .l xs) : ∃ F2, Gr F' H F2 H' ∨ (Same F' F2 ∧ Same F2 H' ∧ (∀ a o, F2 a = some o → F' a = some o ∨ H a = none)) ∧ Dat K F2 v x := by
  rcases e with rfl | ⟨xs, rfl, rfl⟩
  · exact ⟨F', .inr ⟨⟨Same.refl _, s, fun _ _ e => .inl e⟩, h⟩⟩
  · obtain ⟨p, vs, rfl, h0, h1, h2, h3⟩ := h
    refine ⟨upd F' p (.lst vs), .inr ⟨⟨same_new h1, fun a o e => ?_, fun a o e => ?_⟩, .l upd_same (h3.mono (same_new h1))⟩⟩
    · by_cases ha : a = p
      · subst ha; rw [upd_same] at e; cases e; exact h2
      · rw [upd_ne ha] at e; exact s a o e
    · by_cases ha : a = p
      · subst ha; exact .inr h0
      · rw [upd_ne ha] at e; exact .inl e
theorem VOk.frz {F' H' : Hp} {v : V} {r : ER} {x : PV} (gr : Gr F H F' H') (h : VOk K H F' H' v r) (e : r = .d x ∨ ∃ xs, r = .f xs ∧ x = .l xs) : ∃ F2, Gr F H F2 H' ∧ Dat K F2 v x := by
  rcases e with rfl | ⟨xs, rfl, rfl⟩
  · exact ⟨F', gr, h⟩
  · obtain ⟨p, vs, rfl, h0, h1, h2, h3⟩ := h
    refine ⟨upd F' p (.lst vs), ⟨gr.f.trans (same_new h1), gr.h, fun a o e => ?_, fun a o e => ?_⟩, .l upd_same (h3.mono (same_new h1))⟩
    · by_cases ha : a = p
      · subst ha; rw [upd_same] at e; cases e; exact h2
      · rw [upd_ne ha] at e; exact gr.s a o e
    · by_cases ha : a = p
      · subst ha; exact .inr h0
      · rw [upd_ne ha] at e; exact gr.o a o e
theorem DE.goS {Q : VK} (h : DE K CA W te f) (R : Rep K CA H0 F H σ ρ) (hz : eS g (f ρ) = some z) (he : ∀ c, z = .e c → ∀ F' H', Gr F H F' H' → W (.ref (CA c)) none σ H')
    (k : ∀ x v F' H', Gr F H F' H' → Dat K F' v x → g x = some z → Q v H') : te σ H Q := by
  cases h1 : f ρ with
  | none => rw [h1] at hz; cases hz
  | some r =>
    rw [h1] at hz
    refine h H0 F H σ ρ r Q R h1 (fun v F' H' gr ok => ?_) fun c e F' H' gr => ?_
    · cases r with
      | e c => exact ok.elim
      | d x => exact k x v F' H' gr ok hz
      | m xs => cases hz
      | f xs =>
        obtain ⟨F2, gr2, hd⟩ := ok.frz gr (.inr ⟨xs, rfl, rfl⟩)
        exact k (.l xs) v F2 H' gr2 hd hz
    · subst e
      exact he c (Option.some.inj hz).symm F' H' gr

/-! ### values of a kind -/
theorem Val.i {v : V} {x : Int} (h : Val K F H v (.i x)) : v = .int x := by
  rcases h with h | ⟨_, _, _, _, h, _⟩
  · cases h; rfl
  · cases h
theorem Val.b {v : V} {x : Bool} (h : Val K F H v (.b x)) : v = .bl x := by
  rcases h with h | ⟨_, _, _, _, h, _⟩
  · cases h; rfl
  · cases h
theorem Val.s {v : V} {x : List Nat} (h : Val K F H v (.s x)) : v = .str ⟨x.toArray⟩ := by
  rcases h with h | ⟨_, _, _, _, h, _⟩
  · cases h; rfl
  · cases h
theorem Val.n {v : V} (h : Val K F H v .n) : v = .non := by
  rcases h with h | ⟨_, _, _, _, h, _⟩
  · cases h; rfl
  · cases h
theorem Val.l {v : V} {xs : List PV} (s : Same F H) (h : Val K F H v (.l xs)) : ∃ a vs, v = .ref a ∧ H a = some (.lst vs) ∧ Dats K F vs xs := by
  rcases h with h | ⟨p, vs, ys, e1, e2, h1, h2⟩
  · cases h with
    | l h1 h2 => exact ⟨_, _, rfl, s _ _ h1, h2⟩
  · cases e2
    exact ⟨p, vs, e1, h1, h2⟩
theorem Val.t {v : V} {xs : List PV} (s : Same F H) (h : Val K F H v (.t xs)) : ∃ a vs, v = .ref a ∧ SqT K H a vs ∧ Dats K F vs xs := by
  rcases h with h | ⟨p, vs, ys, e1, e2, h1, h2⟩
  · cases h with
    | t h1 h2 => exact ⟨_, _, rfl, SqT.of (s _ _ h1), h2⟩
  · cases e2
theorem Val.zl {v : V} {ns : List Int} (s : Same F H) (h : Val K F H v (.z ns)) : ∃ a, v = .ref a ∧ SqL K H a (ns.map V.int) := by
  rcases h with h | ⟨p, vs, ys, e1, e2, h1, h2⟩
  · cases h with
    | z _ h => exact ⟨_, rfl, s.seq h⟩
  · cases e2
theorem Val.of {v : V} {x : PV} (h : Dat K F v x) : Val K F H v x := .inl h

/-! ### names, constants -/
def cV (i : Nat) : CF := fun ρ => match ρ[i]? with
  | some (.d x) => some (.d x)
  | some (.m xs) => some (.m xs)
  | _ => none
def cK (x : PV) : CF := fun _ => some (.d x)
theorem de_var {i : Nat} : DE K CA W (tVar i) (cV i) := by
  intro H0 F H σ ρ r Q R hz hq _
  unfold cV at hz
  cases h : ρ[i]? with
  | none => rw [h] at hz; cases hz
  | some s =>
    rw [h] at hz
    cases s with
    | u => cases hz
    | d x =>
      cases hz
      obtain ⟨v, h1, h2⟩ := R.dat i x h
      exact ⟨v, h1, hq v F H (Gr.refl R.sub) h2⟩
    | m xs =>
      cases hz
      obtain ⟨p, vs, h1, h2, h3, h4, h5⟩ := R.mt h
      exact ⟨_, h1, hq _ F H (Gr.refl R.sub) ⟨p, vs, rfl, h4, h5⟩⟩
    | _ => cases hz
theorem de_c {v : V} {x : PV} (h : ∀ F, Dat K F v x) : DE K CA W (tC v) (cK x) := by
  intro H0 F H σ ρ r Q R hz hq _
  cases hz
  exact hq v F H (Gr.refl R.sub) (h F)

/-! ### operators -/
def c2 (g : PV → PV → Option ER) (f1 f2 : CF) : CF := fun ρ => e1 (fun x => e1 (g x) (f2 ρ)) (f1 ρ)
def c1 (g : PV → Option ER) (f : CF) : CF := fun ρ => e1 g (f ρ)
def Op2 (K : PySem.W.Frag) (r : R2) (g : PV → PV → Option ER) : Prop := ∀ (F H : Hp) (x y : V) (a b : PV) (z : ER) (Q : VK), Same F H → Val K F H x a → Val K F H y b → g a b = some z →
  (∀ v F' H', Gr F H F' H' → VOk K H F' H' v z → Q v H') → r x y H Q
def Op1 (K : PySem.W.Frag) (r : V → Hp → VK → Prop) (g : PV → Option ER) : Prop := ∀ (F H : Hp) (x : V) (a : PV) (z : ER) (Q : VK), Same F H → Val K F H x a → g a = some z →
  (∀ v F' H', Gr F H F' H' → VOk K H F' H' v z → Q v H') → r x H Q
theorem de_2 {r : R2} {g : PV → PV → Option ER} (ho : Op2 K r g) (ha : DE K CA W ta f1) (hb : DE K CA W tb f2) : DE K CA W (tOp r ta tb) (c2 g f1 f2) := by
  intro H0 F H σ ρ z Q R hz hq he
  refine ha.go R hz he fun x v F1 H1 g1 o1 h1 => ?_
  refine hb.go (R.up g1) h1 (fun c e F' H' gr => he c e F' H' (g1.trans gr)) fun y w F2 H2 g2 o2 h2 => ?_
  exact ho F2 H2 v w x y z Q g2.s (o1.up g2) o2 h2 fun u F' H' g3 ok => hq u F' H' (g1.trans (g2.trans g3)) (ok.back (g1.h.trans g2.h))
theorem de_1 {r : V → Hp → VK → Prop} {g : PV → Option ER} (ho : Op1 K r g) (ha : DE K CA W ta f1) : DE K CA W (tUn r ta) (c1 g f1) := by
  intro H0 F H σ ρ z Q R hz hq he
  refine ha.go R hz he fun x v F1 H1 g1 o1 h1 => ?_
  exact ho F1 H1 v x z Q g1.s o1 h1 fun u F' H' g3 ok => hq u F' H' (g1.trans g3) (ok.back g1.h)
theorem Op2.or1 {r r' : R2} {g : PV → PV → Option ER} (h : Op2 K r g) : Op2 K (fun x y H Q => r x y H Q ∨ r' x y H Q) g := fun F H x y a b z Q s v1 v2 e k => .inl (h F H x y a b z Q s v1 v2 e k)
/-- scalars out -/
theorem vok_d {F' H' : Hp} {v : V} {x : PV} (h : Dat K F' v x) : VOk K H F' H' v (.d x) := h

/-! ### data of a list, a tuple in the heap -/
theorem Dats.atI {vs : List V} {xs : List PV} {i : Int} {x : PV} (h : Dats K F vs xs) (e : L2.atI xs i = some x) : ∃ v, L2.atI vs i = some v ∧ Dat K F v x := by
  unfold L2.atI at e ⊢
  rw [h.length]
  cases hj : ixN xs.length i with
  | none => rw [hj] at e; cases e
  | some j =>
    rw [hj] at e
    exact h.get e
def cutP {α : Type} (xs : List α) (lo hi : Option Int) : List α := (xs.drop (HT.sIx xs.length 0 lo)).take (HT.sIx xs.length xs.length hi - HT.sIx xs.length 0 lo)
theorem Dats.cut {vs : List V} {xs : List PV} {lo hi : Option Int} (h : Dats K F vs xs) : Dats K F (cutV vs lo hi) (cutP xs lo hi) := by
  unfold cutV cutP
  rw [h.length]
  exact (h.drop _).take _

/-! ### arithmetic -/
def big : Nat := 16777216
theorem big_eq : sizeLine = big := sizeLine_eq
def gAdd : PV → PV → Option ER
  | .i x, .i y => some (.d (.i (x + y)))
  | .s x, .s y => if x.length + y.length ≤ big then some (.d (.s (x ++ y))) else none
  | .l x, .l y => if x.length + y.length ≤ big then some (.f (x ++ y)) else none
  | _, _ => none
def rAddA : R2 := fun x y H Q => rI0 (fun i j => .int (i + j)) x y H Q ∨ (∃ i j, x = .str i ∧ y = .str j ∧ i.length + j.length ≤ sizeLine ∧ Q (.str (i ++ j)) H) ∨ rCat x y H Q
theorem or_addA {X : Cx} : OpR X (binaryOp .Add) rAddA := OpR.or op_add (OpR.or op_add_str op_cat)
theorem str_len (x : List Nat) : (⟨x.toArray⟩ : Str).length = x.length := by simp [Str.length]
theorem str_app (x y : List Nat) : (⟨x.toArray⟩ : Str) ++ (⟨y.toArray⟩ : Str) = ⟨(x ++ y).toArray⟩ :=
  congrArg Str.mk (show x.toArray ++ y.toArray = (x ++ y).toArray by simp)
theorem op_addA : Op2 K rAddA gAdd := by
  intro F H x y a b z Q s v1 v2 e k
  unfold gAdd at e
  split at e
  · cases e
    exact .inl ⟨_, _, v1.i, v2.i, k _ F H (Gr.refl s) (.i _)⟩
  · split at e
    · rename_i x1 y1 hl
      cases e
      refine .inr (.inl ⟨_, _, v1.s, v2.s, ?_, ?_⟩)
      · rw [str_len, str_len, big_eq]; exact hl
      · rw [str_app]; exact k _ F H (Gr.refl s) (.s _)
    · cases e
  · split at e
    · rename_i x1 y1 hl
      cases e
      obtain ⟨a, vs, rfl, h1, h2⟩ := v1.l s
      obtain ⟨b, ws, rfl, h3, h4⟩ := v2.l s
      refine .inr (.inr ⟨a, b, vs, ws, rfl, rfl, h1, h3, ?_, fun p hp => ?_⟩)
      · rw [h2.length, h4.length, big_eq]; exact hl
      · exact k _ F _ (Gr.new s hp) ⟨p, _, rfl, hp, s.free hp, upd_same, h2.append h4⟩
    · cases e
  · cases e
def gInt2 (g : Int → Int → PV) : PV → PV → Option ER
  | .i x, .i y => some (.d (g x y))
  | _, _ => none
def gInt2C (C : Int → Int → Prop) [∀ i j, Decidable (C i j)] (g : Int → Int → PV) : PV → PV → Option ER
  | .i x, .i y => if C x y then some (.d (g x y)) else none
  | _, _ => none
theorem op_int2 {g : Int → Int → V} {g' : Int → Int → PV} (h : ∀ i j F, Dat K F (g i j) (g' i j)) : Op2 K (rI0 g) (gInt2 g') := by
  intro F H x y a b z Q s v1 v2 e k
  unfold gInt2 at e
  split at e
  · cases e
    exact ⟨_, _, v1.i, v2.i, k _ F H (Gr.refl s) (h _ _ F)⟩
  · cases e
theorem op_int2C {C : Int → Int → Prop} [∀ i j, Decidable (C i j)] {g : Int → Int → V} {g' : Int → Int → PV} (h : ∀ i j F, Dat K F (g i j) (g' i j)) : Op2 K (rI C g) (gInt2C C g') := by
  intro F H x y a b z Q s v1 v2 e k
  unfold gInt2C at e
  split at e
  · split at e
    · rename_i hc
      cases e
      exact ⟨_, _, v1.i, v2.i, hc, k _ F H (Gr.refl s) (h _ _ F)⟩
    · cases e
  · cases e
instance decMul (i j : Int) : Decidable (CMul i j) := by unfold CMul; infer_instance
instance decDiv (i j : Int) : Decidable (CDiv i j) := by unfold CDiv; infer_instance
instance decPow (i j : Int) : Decidable (CPow i j) := by unfold CPow; infer_instance
def CPos (_ j : Int) : Prop := 0 < j
instance decPos (i j : Int) : Decidable (CPos i j) := by unfold CPos; infer_instance
def gSub := gInt2 fun x y => .i (x - y)
def CMulN (i j : Int) : Prop := i.natAbs < 18446744073709551616 ∨ j.natAbs < 18446744073709551616
instance decMulN (i j : Int) : Decidable (CMulN i j) := by unfold CMulN; infer_instance
def gMul := gInt2C CMulN fun x y => .i (x * y)
theorem op_mulP : Op2 K (rI CMul fun i j => .int (i * j)) gMul := by
  intro F H x y a b z Q s v1 v2 e k
  unfold gMul gInt2C at e
  split at e
  · split at e
    · rename_i hc
      cases e
      refine ⟨_, _, v1.i, v2.i, ?_, k _ F H (Gr.refl s) (.i _)⟩
      unfold CMulN at hc
      unfold CMul
      omega
    · cases e
  · cases e
def gMod := gInt2C CPos fun x y => .i (x % y)
def gDiv := gInt2C CDiv fun x y => .i (x / y)
def gPow := gInt2C CPow fun x y => .i (x ^ y.toNat)
def gLt := gInt2 fun x y => .b (decide (x < y))
def gLe := gInt2 fun x y => .b (decide (x ≤ y))
def gGt := gInt2 fun x y => .b (decide (y < x))
def gGe := gInt2 fun x y => .b (decide (y ≤ x))
def gNeg : PV → Option ER
  | .i x => some (.d (.i (-x)))
  | _ => none
theorem op_neg : Op1 K (rU fun i => .int (-i)) gNeg := by
  intro F H x a z Q s v1 e k
  unfold gNeg at e
  split at e
  · cases e
    exact ⟨_, v1.i, k _ F H (Gr.refl s) (.i _)⟩
  · cases e

/-! ### == and != -/
def gEq (a b : PV) : Option ER := if dep a ≤ 60 ∧ dep b ≤ 60 then some (.d (.b (eqv a b))) else none
def gNe (a b : PV) : Option ER := if dep a ≤ 60 ∧ dep b ≤ 60 then some (.d (.b (!eqv a b))) else none
def rEqP (K : PySem.W.Frag) : R2 := fun x y H Q => ∃ d e, Dp K H x d ∧ Dp K H y e ∧ d.plain = true ∧ e.plain = true ∧ min d.depth e.depth ≤ 60 ∧ Q (.bl (PyData.eqv d e)) H
def rNeP (K : PySem.W.Frag) : R2 := fun x y H Q => ∃ d e, Dp K H x d ∧ Dp K H y e ∧ d.plain = true ∧ e.plain = true ∧ min d.depth e.depth ≤ 60 ∧ Q (.bl (!PyData.eqv d e)) H
theorem or_eqP {X : Cx} (hu : X.A.units + 64 < cLine) : OpR X (compareOp .Eq) (rEqP X.K) := by
  intro pins s σ H x y v u Q I rx ry h
  obtain ⟨d, e, hd, he, sd, se, hm, q⟩ := h
  obtain ⟨as, r1⟩ := Dp.reads I d x v hd rx
  obtain ⟨bs, r2⟩ := Dp.reads I e y u he ry
  exact SeqAt.eq_plain r1 r2 sd se (by omega) ⟨.bl _, H, I, rfl, q⟩
theorem or_neP {X : Cx} (hu : X.A.units + 64 < cLine) : OpR X (compareOp .NotEq) (rNeP X.K) := by
  intro pins s σ H x y v u Q I rx ry h
  obtain ⟨d, e, hd, he, sd, se, hm, q⟩ := h
  obtain ⟨as, r1⟩ := Dp.reads I d x v hd rx
  obtain ⟨bs, r2⟩ := Dp.reads I e y u he ry
  exact SeqAt.ne_plain r1 r2 sd se (by omega) ⟨.bl _, H, I, rfl, q⟩
theorem op_eqP : Op2 K (rEqP K) gEq := by
  intro F H x y a b z Q s v1 v2 e k
  unfold gEq at e
  split at e
  · rename_i hd
    cases e
    refine ⟨_, _, (v1.dat s).dp (by omega), (v2.dat s).dp (by omega), plain_py _, plain_py _, ?_, ?_⟩
    · have := depth_py a
      have := depth_py b
      omega
    · rw [eqv_py]; exact k _ F H (Gr.refl s) (.b _)
  · cases e
theorem op_neP : Op2 K (rNeP K) gNe := by
  intro F H x y a b z Q s v1 v2 e k
  unfold gNe at e
  split at e
  · rename_i hd
    cases e
    refine ⟨_, _, (v1.dat s).dp (by omega), (v2.dat s).dp (by omega), plain_py _, plain_py _, ?_, ?_⟩
    · have := depth_py a
      have := depth_py b
      omega
    · rw [eqv_py]; exact k _ F H (Gr.refl s) (.b _)
  · cases e
/-- is None, is not None -/
def gIsN : PV → PV → Option ER
  | .n, .n => some (.d (.b true))
  | _, .n => some (.d (.b false))
  | _, _ => none
def gNoN : PV → PV → Option ER
  | .n, .n => some (.d (.b false))
  | _, .n => some (.d (.b true))
  | _, _ => none
theorem Val.non_iff {v : V} {x : PV} (h : Val K F H v x) : v = .non ↔ x = .n := by
  rcases h with h | ⟨_, _, _, e1, e2, _⟩
  · cases h <;> simp
  · subst e1 e2; simp
theorem op_isNP : Op2 K (fun x y H Q => y = .non ∧ Q (.bl (decide (x = .non))) H) gIsN := by
  intro F H x y a b z Q s v1 v2 e k
  unfold gIsN at e
  split at e
  · cases e
    refine ⟨v2.n, ?_⟩
    rw [decide_eq_true v1.n]
    exact k _ F H (Gr.refl s) (.b _)
  · rename_i hn
    cases e
    refine ⟨v2.n, ?_⟩
    rw [decide_eq_false fun q => hn (v1.non_iff.mp q)]
    exact k _ F H (Gr.refl s) (.b _)
  · cases e
theorem op_noNP : Op2 K (fun x y H Q => y = .non ∧ Q (.bl (!decide (x = .non))) H) gNoN := by
  intro F H x y a b z Q s v1 v2 e k
  unfold gNoN at e
  split at e
  · cases e
    refine ⟨v2.n, ?_⟩
    rw [decide_eq_true v1.n]
    exact k _ F H (Gr.refl s) (.b _)
  · rename_i hn
    cases e
    refine ⟨v2.n, ?_⟩
    rw [decide_eq_false fun q => hn (v1.non_iff.mp q)]
    exact k _ F H (Gr.refl s) (.b _)
  · cases e
end
end DD
/-! subscripts, slices, displays, built-in calls, tests -/
namespace DD
open PySem PySem.Spec L2
section
variable {K : PySem.W.Frag} {CA : Err → Addr} {W : WX} {te ta tb tc : TE} {tt tu : TT} {f f1 f2 f3 : CF} {H0 F H : Hp} {σ : L2.St} {ρ : Sl} {g : PV → Option ER}

/-! ### subscripts -/
def gIdx : PV → PV → Option ER
  | .l xs, .i k => (L2.atI xs k).map .d
  | .t xs, .i k => (L2.atI xs k).map .d
  | .s cs, .i k => if cs.length ≤ big then (L2.atI cs k).map fun c => .d (.s [c]) else none
  | .z ns, .i k => (L2.atI ns k).map fun n => .d (.i n)
  | _, _ => none
theorem atI_map {α β : Type} (f : α → β) (xs : List α) (i : Int) : L2.atI (xs.map f) i = (L2.atI xs i).map f := by
  unfold L2.atI
  rw [List.length_map]
  cases ixN xs.length i with
  | none => rfl
  | some j => simp
theorem op_idx : Op2 K (rIx K) gIdx := by
  intro F H x y a b z Q s v1 v2 e k
  unfold gIdx at e
  split at e
  · rename_i xs j
    obtain ⟨p, vs, rfl, h1, h2⟩ := v1.l s
    cases ha : L2.atI xs j with
    | none => rw [ha] at e; cases e
    | some x =>
      rw [ha] at e
      cases e
      obtain ⟨v, e1, e2⟩ := h2.atI ha
      exact .inl ⟨p, vs, j, v, rfl, v2.i, SqL.of h1, e1, k _ F H (Gr.refl s) e2⟩
  · rename_i xs j
    obtain ⟨p, vs, rfl, h1, h2⟩ := v1.t s
    cases ha : L2.atI xs j with
    | none => rw [ha] at e; cases e
    | some x =>
      rw [ha] at e
      cases e
      obtain ⟨v, e1, e2⟩ := h2.atI ha
      exact .inr (.inl ⟨p, vs, j, v, rfl, v2.i, h1, e1, k _ F H (Gr.refl s) e2⟩)
  · rename_i cs j
    split at e
    · rename_i hl
      cases ha : L2.atI cs j with
      | none => rw [ha] at e; cases e
      | some c =>
        rw [ha] at e
        cases e
        refine .inr (.inr ⟨_, j, c, v1.s, v2.i, ?_, ha, k _ F H (Gr.refl s) (Dat.s [c])⟩)
        rw [str_len, big_eq]; exact hl
    · cases e
  · rename_i ns j
    obtain ⟨p, rfl, h1⟩ := v1.zl s
    cases ha : L2.atI ns j with
    | none => rw [ha] at e; cases e
    | some n =>
      rw [ha] at e
      cases e
      refine .inl ⟨p, _, j, .int n, rfl, v2.i, h1, ?_, k _ F H (Gr.refl s) (.i n)⟩
      rw [atI_map, ha]
      rfl
  · cases e

/-! ### slices -/
def gCut : PV → Option Int → Option Int → Option ER
  | .s cs, lo, hi => if cs.length ≤ big then some (.d (.s (cutP cs lo hi))) else none
  | .l xs, lo, hi => some (.f (cutP xs lo hi))
  | .t xs, lo, hi => if HT.sIx xs.length 0 lo = 0 ∧ HT.sIx xs.length xs.length hi = xs.length then none else some (.d (.t (cutP xs lo hi)))
  | _, _, _ => none
/-- a slice's part -/
def cP (g : Option Int → Option ER) : Option CF → Sl → Option ER
  | none, _ => g none
  | some f, ρ => e1 (fun x => match x with | .i k => g (some k) | _ => none) (f ρ)
def cSl (f : CF) (lo hi : Option CF) : CF := fun ρ => e1 (fun x => cP (fun a => cP (fun b => gCut x a b) hi ρ) lo ρ) (f ρ)
/-- how a slice's part is read -/
def DO (K : PySem.W.Frag) (CA : Err → Addr) (W : WX) (to : TO) (p : Option CF) : Prop := ∀ (H0 F H : Hp) (σ : L2.St) (ρ : Sl) (z : ER) (g : Option Int → Option ER) (Q : Option Int → Hp → Prop), Rep K CA H0 F H σ ρ → cP g p ρ = some z →
  (∀ c, z = .e c → ∀ F' H', Gr F H F' H' → W (.ref (CA c)) none σ H') → (∀ o F' H', Gr F H F' H' → g o = some z → Q o H') → to σ H Q
theorem do_none : DO K CA W tNoPart none := fun _ F H _ _ _ _ _ R e _ k => k none F H (Gr.refl R.sub) e
theorem do_some (h : DE K CA W te f) : DO K CA W (tPart te) (some f) := by
  intro H0 F H σ ρ z g Q R hz he k
  refine h.go R hz he fun x v F1 H1 g1 o1 h1 => ?_
  cases x with
  | i j => exact ⟨j, o1.i, k _ F1 H1 g1 h1⟩
  | _ => cases h1
def rSlA (K : PySem.W.Frag) : V → Option Int → Option Int → Hp → VK → Prop := fun x lo hi H Q => rSlS x lo hi H Q ∨ rSlL K x lo hi H Q ∨ rSlT K x lo hi H Q
theorem sl_any {X : Cx} : SlR X (rSlA X.K) := SlR.or sl_str (SlR.or sl_list sl_tup)
theorem str_cut (cs : List Nat) (lo hi : Option Int) : cutS ⟨cs.toArray⟩ lo hi = ⟨(cutP cs lo hi).toArray⟩ := by
  unfold cutS cutP
  rw [str_len]
theorem de_sl {to1 to2 : TO} {lo hi : Option CF} (h : DE K CA W te f) (h1 : DO K CA W to1 lo) (h2 : DO K CA W to2 hi) : DE K CA W (tSl (rSlA K) te to1 to2) (cSl f lo hi) := by
  intro H0 F H σ ρ z Q R hz hq he
  refine h.go R hz he fun x v F1 H1 g1 o1 e1 => ?_
  refine h1 H0 F1 H1 σ ρ z _ _ (R.up g1) e1 (fun c e F' H' gr => he c e F' H' (g1.trans gr)) fun a F2 H2 g2 e2 => ?_
  have g12 := g1.trans g2
  refine h2 H0 F2 H2 σ ρ z _ _ (R.up g12) e2 (fun c e F' H' gr => he c e F' H' (g12.trans gr)) fun b F3 H3 g3 e3 => ?_
  have g13 := g12.trans g3
  have v3 : Val K F3 H3 v x := (o1.up g2).up g3
  unfold gCut at e3
  split at e3
  · split at e3
    · rename_i hl
      cases e3
      refine .inl ⟨_, v3.s, by rw [str_len, big_eq]; exact hl, ?_⟩
      rw [str_cut]
      exact hq _ F3 H3 g13 (Dat.s _)
    · cases e3
  · cases e3
    obtain ⟨p, vs, rfl, q1, q2⟩ := v3.l g3.s
    refine .inr (.inl ⟨p, vs, rfl, SqL.of q1, fun p hp => ?_⟩)
    refine hq _ F3 _ (g13.trans (Gr.new g3.s hp)) ⟨p, _, rfl, g13.h.free hp, g3.s.free hp, upd_same, q2.cut⟩
  · rename_i xs lo' hi'
    split at e3
    · cases e3
    · rename_i hn
      cases e3
      obtain ⟨p, vs, rfl, q1, q2⟩ := v3.t g3.s
      refine .inr (.inr ⟨p, vs, rfl, q1, by rw [q2.length]; exact hn, fun p hp => ?_⟩)
      have hF : F3 p = none := g3.s.free hp
      exact hq _ _ _ (g13.trans (Gr.put g3.s hp)) (Dat.t upd_same (q2.cut.mono (same_new hF)))
  · cases e3

/-! ### lists of arguments -/
def cA (g : List PV → Option ER) : List CF → Sl → Option ER
  | [], _ => g []
  | f :: fs, ρ => eS (fun x => cA (fun xs => g (x :: xs)) fs ρ) (f ρ)
def DA (K : PySem.W.Frag) (CA : Err → Addr) (W : WX) (ta : TA) (fs : List CF) : Prop := ∀ (H0 F H : Hp) (σ : L2.St) (ρ : Sl) (z : ER) (g : List PV → Option ER) (Q : List V → Hp → Prop), Rep K CA H0 F H σ ρ → cA g fs ρ = some z →
  (∀ c, z = .e c → ∀ F' H', Gr F H F' H' → W (.ref (CA c)) none σ H') → (∀ xs vs F' H', Gr F H F' H' → Dats K F' vs xs → g xs = some z → Q vs H') → ta σ H Q
theorem da_nil : DA K CA W tNil [] := fun _ F H _ _ _ _ _ R e _ k => k [] [] F H (Gr.refl R.sub) .nil e
theorem da_cons {tr : TA} {fs : List CF} (h : DE K CA W te f) (hr : DA K CA W tr fs) : DA K CA W (tCons te tr) (f :: fs) := by
  intro H0 F H σ ρ z g Q R hz he k
  refine h.goS R hz he fun x v F1 H1 g1 o1 e1 => ?_
  refine hr H0 F1 H1 σ ρ z _ _ (R.up g1) e1 (fun c e F' H' gr => he c e F' H' (g1.trans gr)) fun xs vs F2 H2 g2 o2 e2 => ?_
  exact k (x :: xs) (v :: vs) F2 H2 (g1.trans g2) (.cons (o1.mono g2.f) o2) e2
def cTup (fs : List CF) : CF := cA (fun xs => if xs.length ≤ big then some (.d (.t xs)) else none) fs
def cLst (fs : List CF) : CF := cA (fun xs => if xs.length ≤ big then some (.f xs) else none) fs
theorem de_tup {tas : TA} {fs : List CF} (h : DA K CA W tas fs) : DE K CA W (tTup tas) (cTup fs) := by
  intro H0 F H σ ρ z Q R hz hq he
  refine h H0 F H σ ρ z _ _ R hz he fun xs vs F1 H1 g1 o1 e1 => ?_
  split at e1
  · rename_i hl
    cases e1
    refine ⟨by rw [o1.length, big_eq]; exact hl, fun p hp => ?_⟩
    exact hq _ _ _ (g1.trans (Gr.put g1.s hp)) (Dat.t upd_same (o1.mono (same_new (g1.s.free hp))))
  · cases e1
theorem de_lst {tas : TA} {fs : List CF} (h : DA K CA W tas fs) : DE K CA W (tLst tas) (cLst fs) := by
  intro H0 F H σ ρ z Q R hz hq he
  refine h H0 F H σ ρ z _ _ R hz he fun xs vs F1 H1 g1 o1 e1 => ?_
  split at e1
  · rename_i hl
    cases e1
    refine ⟨by rw [o1.length, big_eq]; exact hl, fun p hp => ?_⟩
    exact hq _ _ _ (g1.trans (Gr.new g1.s hp)) ⟨p, _, rfl, g1.h.free hp, g1.s.free hp, upd_same, o1⟩
  · cases e1

/-! ### a built-in of one value, of two -/
def Op1C (K : PySem.W.Frag) (r : List V → Hp → VK → Prop) (g : PV → Option ER) : Prop := ∀ (F H : Hp) (x : V) (a : PV) (z : ER) (Q : VK), Same F H → Val K F H x a → g a = some z →
  (∀ v F' H', Gr F H F' H' → VOk K H F' H' v z → Q v H') → r [x] H Q
def Op2C (K : PySem.W.Frag) (r : List V → Hp → VK → Prop) (g : PV → PV → Option ER) : Prop := ∀ (F H : Hp) (x y : V) (a b : PV) (z : ER) (Q : VK), Same F H → Val K F H x a → Val K F H y b → g a b = some z →
  (∀ v F' H', Gr F H F' H' → VOk K H F' H' v z → Q v H') → r [x, y] H Q
theorem de_B1 {r : List V → Hp → VK → Prop} (ho : Op1C K r g) (ha : DE K CA W te f) : DE K CA W (tCB r (tCons te tNil)) (c1 g f) := by
  intro H0 F H σ ρ z Q R hz hq he
  refine ha.go R hz he fun x v F1 H1 g1 o1 h1 => ?_
  exact ho F1 H1 v x z Q g1.s o1 h1 fun u F' H' g3 ok => hq u F' H' (g1.trans g3) (ok.back g1.h)
theorem de_B2 {r : List V → Hp → VK → Prop} {g : PV → PV → Option ER} (ho : Op2C K r g) (ha : DE K CA W ta f1) (hb : DE K CA W tb f2) : DE K CA W (tCB r (tCons ta (tCons tb tNil))) (c2 g f1 f2) := by
  intro H0 F H σ ρ z Q R hz hq he
  refine ha.go R hz he fun x v F1 H1 g1 o1 h1 => ?_
  refine hb.go (R.up g1) h1 (fun c e F' H' gr => he c e F' H' (g1.trans gr)) fun y w F2 H2 g2 o2 h2 => ?_
  exact ho F2 H2 v w x y z Q g2.s (o1.up g2) o2 h2 fun u F' H' g3 ok => hq u F' H' (g1.trans (g2.trans g3)) (ok.back (g1.h.trans g2.h))
def gLen : PV → Option ER
  | .l xs => some (.d (.i xs.length))
  | .t xs => some (.d (.i xs.length))
  | .z xs => some (.d (.i xs.length))
  | .s cs => if cs.length ≤ big then some (.d (.i cs.length)) else none
  | _ => none
def rLenA (K : PySem.W.Frag) : List V → Hp → VK → Prop := fun xs H Q => ∃ x n, xs = [x] ∧ LenV K x H n ∧ Q (.int n) H
theorem op_len : Op1C K (rLenA K) gLen := by
  intro F H x a z Q s v1 e k
  unfold gLen at e
  split at e
  · cases e
    obtain ⟨p, vs, rfl, h1, h2⟩ := v1.l s
    exact ⟨_, _, rfl, .inl ⟨vs, SqL.of h1, h2.length.symm⟩, k _ F H (Gr.refl s) (Dat.i _)⟩
  · cases e
    obtain ⟨p, vs, rfl, h1, h2⟩ := v1.t s
    exact ⟨_, _, rfl, .inr ⟨vs, h1, h2.length.symm⟩, k _ F H (Gr.refl s) (Dat.i _)⟩
  · rename_i ns
    cases e
    obtain ⟨p, rfl, h1⟩ := v1.zl s
    exact ⟨_, ns.length, rfl, .inl ⟨_, h1, by rw [List.length_map]⟩, k _ F H (Gr.refl s) (Dat.i _)⟩
  · rename_i cs
    split at e
    · rename_i hl
      cases e
      refine ⟨_, cs.length, congrArg (fun t => [t]) v1.s, ⟨?_, (str_len cs).symm⟩, k _ F H (Gr.refl s) (Dat.i _)⟩
      rw [str_len, big_eq]; exact hl
    · cases e
  · cases e
def gOrd : PV → Option ER
  | .s [c] => some (.d (.i c))
  | _ => none
def rOrd : List V → Hp → VK → Prop := fun xs H Q => ∃ x, xs = [.str x] ∧ x.length = 1 ∧ Q (.int (x.cps.getD 0 0 : Nat)) H
theorem op_ord : Op1C K rOrd gOrd := by
  intro F H x a z Q s v1 e k
  unfold gOrd at e
  split at e
  · cases e
    exact ⟨_, congrArg (fun t => [t]) v1.s, rfl, k _ F H (Gr.refl s) (Dat.i _)⟩
  · cases e
def gInt : PV → Option ER
  | .i x => some (.d (.i x))
  | .b x => some (.d (.i (if x then 1 else 0)))
  | _ => none
def rInt1 : List V → Hp → VK → Prop := fun xs H Q => (∃ i, xs = [.int i] ∧ Q (.int i) H) ∨ ∃ k, xs = [.bl k] ∧ Q (.int (if k then 1 else 0)) H
theorem op_int1 : Op1C K rInt1 gInt := by
  intro F H x a z Q s v1 e k
  unfold gInt at e
  split at e
  · cases e
    exact .inl ⟨_, congrArg (fun t => [t]) v1.i, k _ F H (Gr.refl s) (Dat.i _)⟩
  · cases e
    exact .inr ⟨_, congrArg (fun t => [t]) v1.b, k _ F H (Gr.refl s) (Dat.i _)⟩
  · cases e
def gMin2 := gInt2 fun i j => .i (if j < i then j else i)
def gMax2 := gInt2 fun i j => .i (if j > i then j else i)
def rMin2 : List V → Hp → VK → Prop := fun xs H Q => ∃ i j, xs = [.int i, .int j] ∧ Q (.int (if j < i then j else i)) H
def rMax2 : List V → Hp → VK → Prop := fun xs H Q => ∃ i j, xs = [.int i, .int j] ∧ Q (.int (if j > i then j else i)) H
theorem op_min2 : Op2C K rMin2 gMin2 := by
  intro F H x y a b z Q s v1 v2 e k
  unfold gMin2 gInt2 at e
  split at e
  · cases e
    exact ⟨_, _, by rw [v1.i, v2.i], k _ F H (Gr.refl s) (Dat.i _)⟩
  · cases e
theorem op_max2 : Op2C K rMax2 gMax2 := by
  intro F H x y a b z Q s v1 v2 e k
  unfold gMax2 gInt2 at e
  split at e
  · cases e
    exact ⟨_, _, by rw [v1.i, v2.i], k _ F H (Gr.refl s) (Dat.i _)⟩
  · cases e
/-- lists of ints, of truth values -/
def intsOf : List PV → Option (List Int)
  | [] => some []
  | .i x :: r => (intsOf r).map (x :: ·)
  | _ => none
def blsOf : List PV → Option (List Bool)
  | [] => some []
  | .b x :: r => (blsOf r).map (x :: ·)
  | _ => none
def strsOf : List PV → Option (List (List Nat))
  | [] => some []
  | .s x :: r => (strsOf r).map (x :: ·)
  | _ => none
theorem intsOf_eq : ∀ {xs : List PV} {ns : List Int}, intsOf xs = some ns → xs = ns.map .i
  | [], ns, h => by cases h; rfl
  | .i x :: r, ns, h => by
    unfold intsOf at h
    cases e : intsOf r with
    | none => rw [e] at h; cases h
    | some m => rw [e] at h; cases h; rw [intsOf_eq e]; rfl
  | .n :: _, _, h => by cases h
  | .b _ :: _, _, h => by cases h
  | .s _ :: _, _, h => by cases h
  | .t _ :: _, _, h => by cases h
  | .l _ :: _, _, h => by cases h
  | .z _ :: _, _, h => by cases h
  | .q _ _ :: _, _, h => by cases h
theorem blsOf_eq : ∀ {xs : List PV} {ns : List Bool}, blsOf xs = some ns → xs = ns.map .b
  | [], ns, h => by cases h; rfl
  | .b x :: r, ns, h => by
    unfold blsOf at h
    cases e : blsOf r with
    | none => rw [e] at h; cases h
    | some m => rw [e] at h; cases h; rw [blsOf_eq e]; rfl
  | .n :: _, _, h => by cases h
  | .i _ :: _, _, h => by cases h
  | .s _ :: _, _, h => by cases h
  | .t _ :: _, _, h => by cases h
  | .l _ :: _, _, h => by cases h
  | .z _ :: _, _, h => by cases h
  | .q _ _ :: _, _, h => by cases h
theorem strsOf_eq : ∀ {xs : List PV} {ns : List (List Nat)}, strsOf xs = some ns → xs = ns.map .s
  | [], ns, h => by cases h; rfl
  | .s x :: r, ns, h => by
    unfold strsOf at h
    cases e : strsOf r with
    | none => rw [e] at h; cases h
    | some m => rw [e] at h; cases h; rw [strsOf_eq e]; rfl
  | .n :: _, _, h => by cases h
  | .b _ :: _, _, h => by cases h
  | .i _ :: _, _, h => by cases h
  | .t _ :: _, _, h => by cases h
  | .l _ :: _, _, h => by cases h
  | .z _ :: _, _, h => by cases h
  | .q _ _ :: _, _, h => by cases h
@[simp] theorem intsOf_map : ∀ ns : List Int, intsOf (ns.map .i) = some ns
  | [] => rfl
  | n :: ns => by simp [intsOf, intsOf_map ns]
@[simp] theorem blsOf_map : ∀ ns : List Bool, blsOf (ns.map .b) = some ns
  | [] => rfl
  | n :: ns => by simp [blsOf, blsOf_map ns]
@[simp] theorem strsOf_map : ∀ ns : List (List Nat), strsOf (ns.map .s) = some ns
  | [] => rfl
  | n :: ns => by simp [strsOf, strsOf_map ns]
def gSum : PV → Option ER
  | .l xs => (intsOf xs).map fun ns => .d (.i ns.sum)
  | _ => none
def gAll : PV → Option ER
  | .l xs => (blsOf xs).map fun bs => .d (.b (bs.all id))
  | _ => none
theorem op_sum : Op1C K (rSum K) gSum := by
  intro F H x a z Q s v1 e k
  unfold gSum at e
  split at e
  · rename_i xs
    cases hi : intsOf xs with
    | none => rw [hi] at e; cases e
    | some ns =>
      rw [hi] at e
      cases e
      obtain ⟨p, vs, rfl, h1, h2⟩ := v1.l s
      rw [intsOf_eq hi] at h2
      rw [h2.ints] at h1
      exact ⟨p, ns, rfl, SqL.of h1, k _ F H (Gr.refl s) (Dat.i _)⟩
  · cases e
theorem op_all : Op1C K (rAll K) gAll := by
  intro F H x a z Q s v1 e k
  unfold gAll at e
  split at e
  · rename_i xs
    cases hi : blsOf xs with
    | none => rw [hi] at e; cases e
    | some ns =>
      rw [hi] at e
      cases e
      obtain ⟨p, vs, rfl, h1, h2⟩ := v1.l s
      rw [blsOf_eq hi] at h2
      rw [h2.bls] at h1
      exact ⟨p, ns, rfl, SqL.of h1, k _ F H (Gr.refl s) (Dat.b _)⟩
  · cases e
/-- list(xs) of a list, a tuple -/
def gList : PV → Option ER
  | .l xs => some (.f xs)
  | .t xs => some (.f xs)
  | _ => none
def rListO (K : PySem.W.Frag) : List V → Hp → VK → Prop := fun xs H Q => ∃ p ys, xs = [.ref p] ∧ (SqL K H p ys ∨ SqT K H p ys) ∧ ∀ l, H l = none → Q (.ref l) (upd H l (.lst ys))
theorem op_list : Op1C K (rListO K) gList := by
  intro F H x a z Q s v1 e k
  unfold gList at e
  split at e
  · cases e
    obtain ⟨p, vs, rfl, h1, h2⟩ := v1.l s
    exact ⟨p, vs, rfl, .inl (SqL.of h1), fun q hq => k _ F _ (Gr.new s hq) ⟨q, vs, rfl, hq, s.free hq, upd_same, h2⟩⟩
  · cases e
    obtain ⟨p, vs, rfl, h1, h2⟩ := v1.t s
    exact ⟨p, vs, rfl, .inr h1, fun q hq => k _ F _ (Gr.new s hq) ⟨q, vs, rfl, hq, s.free hq, upd_same, h2⟩⟩
  · cases e

/-! ### isinstance of a built-in type -/
def tyName : PV → String
  | .n => "NoneType" | .b _ => "bool" | .i _ => "int" | .s _ => "str" | .t _ => "tuple" | .l _ => "list" | .z _ => "list" | .q _ _ => "dict"
def gIs (T : String) (x : PV) : Option ER := (kitB (tyName x) T).map fun b => .d (.b b)
theorem sqT_ty {a : Addr} {vs : List V} (h : SqT K H a vs) : TyX K H (.ref a) (.type "tuple") := by
  rcases h with (h | ⟨o, h⟩) | ⟨o, its, n, h, hc, _⟩
  · exact .base (.tup h)
  · exact .fTuple h
  · exact .kTuple h hc
theorem sqL_ty {a : Addr} {vs : List V} (h : SqL K H a vs) : TyX K H (.ref a) (.type "list") := by
  rcases h with (h | ⟨o, h⟩) | ⟨o, its, n, h, hc, _⟩
  · exact .base (.lst h)
  · exact .base (.frz h)
  · exact .kList h hc
theorem Val.ty {v : V} {x : PV} (s : Same F H) (h : Val K F H v x) : TyX K H v (.type (tyName x)) := by
  cases x with
  | n => rw [h.n]; exact .base .non
  | b _ => rw [h.b]; exact .base (.bl _)
  | i _ => rw [h.i]; exact .base (.int _)
  | s _ => rw [h.s]; exact .base (.str _)
  | t xs => obtain ⟨a, vs, rfl, h1, _⟩ := h.t s; exact sqT_ty h1
  | l xs => obtain ⟨a, vs, rfl, h1, _⟩ := h.l s; exact sqL_ty (SqL.of h1)
  | z ns => obtain ⟨a, rfl, h1⟩ := h.zl s; exact sqL_ty h1
  | q ks xs =>
    rcases h with h | ⟨_, _, _, _, e2, _⟩
    · cases h with
      | q h1 h2 h3 =>
        rcases h2.2 with ⟨_, _, rfl⟩ | ⟨_, _, rfl⟩
        · exact .base (.dK (s _ _ h1))
        · exact .base (.dT (s _ _ h1))
    · cases e2
theorem de_isi {T : String} (ha : DE K CA W te f) : DE K CA W (tCB (rIsi K) (tCons te (tCons (tC (.ty T)) tNil))) (c1 (gIs T) f) := by
  intro H0 F H σ ρ z Q R hz hq he
  refine ha.go R hz he fun x v F1 H1 g1 o1 h1 => ?_
  unfold gIs at h1
  cases hb : kitB (tyName x) T with
  | none => rw [hb] at h1; cases h1
  | some b =>
    rw [hb] at h1
    cases h1
    exact ⟨v, .ty T, _, _, b, rfl, .ty T, o1.ty g1.s, kit_ty hb, hq _ F1 H1 g1 (Dat.b _)⟩

/-! ### tests -/
def cNot (f : CF) : CF := fun ρ => match f ρ with
  | some (.d (.b k)) => some (.d (.b !k))
  | some (.e c) => some (.e c)
  | _ => none
def cAnd (f g : CF) : CF := fun ρ => match f ρ with
  | some (.d (.b true)) => g ρ
  | some (.d (.b false)) => some (.d (.b false))
  | some (.e c) => some (.e c)
  | _ => none
def cOr (f g : CF) : CF := fun ρ => match f ρ with
  | some (.d (.b true)) => some (.d (.b true))
  | some (.d (.b false)) => g ρ
  | some (.e c) => some (.e c)
  | _ => none
/-- what a test gives: a truth value, or an error -/
def isT (r : ER) : Prop := (∃ k, r = .d (.b k)) ∨ ∃ c, r = .e c
theorem DE.blk {Q : VK} (h : DE K CA W te f) (R : Rep K CA H0 F H σ ρ) {r : ER} (hz : f ρ = some r) (hT : isT r) (k : ∀ b, r = .d (.b b) → ∀ F' H', Gr F H F' H' → Q (.bl b) H') (he : ∀ c, r = .e c → ∀ F' H', Gr F H F' H' → W (.ref (CA c)) none σ H') : te σ H Q := by
  refine h H0 F H σ ρ r Q R hz (fun v F' H' gr ok => ?_) he
  rcases hT with ⟨b, rfl⟩ | ⟨c, rfl⟩
  · rw [ok.va.b]
    exact k b rfl F' H' gr
  · exact ok.elim
theorem dt_B (h : DE K CA W te f) : DT K CA W (tB te) f := fun H0 F H σ ρ r Q R hz hT k he => h.blk R hz hT (fun b e F' H' gr => ⟨b, rfl, k b e F' H' gr⟩) he
theorem dt_test (h : DE K CA W te f) : DT K CA W (tTest te) f := fun H0 F H σ ρ r Q R hz hT k he => h.blk R hz hT (fun b e F' H' gr => ⟨b, rfl, k b e F' H' gr⟩) he
theorem dt_not (h : DT K CA W tt f) : DT K CA W (tNot tt) (cNot f) := by
  intro H0 F H σ ρ r Q R hz hT k he
  unfold cNot at hz
  split at hz
  · rename_i b hb
    cases hz
    exact h H0 F H σ ρ _ _ R hb (.inl ⟨_, rfl⟩) (fun k' e F' H' gr => by cases e; exact k _ rfl F' H' gr) (fun c e => by cases e)
  · rename_i c hc
    cases hz
    exact h H0 F H σ ρ _ _ R hc (.inr ⟨_, rfl⟩) (fun k' e => by cases e) he
  · cases hz
theorem dt_and (h : DT K CA W tt f1) (h' : DT K CA W tu f2) : DT K CA W (tAnd tt tu) (cAnd f1 f2) := by
  intro H0 F H σ ρ r Q R hz hT k he
  unfold cAnd at hz
  split at hz
  · rename_i hb
    refine h H0 F H σ ρ _ _ R hb (.inl ⟨_, rfl⟩) (fun k' e F' H' gr => ?_) (fun c e => by cases e)
    cases e
    exact iteT (h' H0 F' H' σ ρ r Q (R.up gr) hz hT (fun b e F2 H2 g2 => k b e F2 H2 (gr.trans g2)) fun c e F2 H2 g2 => he c e F2 H2 (gr.trans g2))
  · rename_i hb
    cases hz
    refine h H0 F H σ ρ _ _ R hb (.inl ⟨_, rfl⟩) (fun k' e F' H' gr => ?_) (fun c e => by cases e)
    cases e
    exact iteF (k _ rfl F' H' gr)
  · rename_i c hc
    cases hz
    exact h H0 F H σ ρ _ _ R hc (.inr ⟨_, rfl⟩) (fun k' e => by cases e) he
  · cases hz
theorem dt_or (h : DT K CA W tt f1) (h' : DT K CA W tu f2) : DT K CA W (tOr tt tu) (cOr f1 f2) := by
  intro H0 F H σ ρ r Q R hz hT k he
  unfold cOr at hz
  split at hz
  · rename_i hb
    cases hz
    refine h H0 F H σ ρ _ _ R hb (.inl ⟨_, rfl⟩) (fun k' e F' H' gr => ?_) (fun c e => by cases e)
    cases e
    exact iteT (k _ rfl F' H' gr)
  · rename_i hb
    refine h H0 F H σ ρ _ _ R hb (.inl ⟨_, rfl⟩) (fun k' e F' H' gr => ?_) (fun c e => by cases e)
    cases e
    exact iteF (h' H0 F' H' σ ρ r Q (R.up gr) hz hT (fun b e F2 H2 g2 => k b e F2 H2 (gr.trans g2)) fun c e F2 H2 g2 => he c e F2 H2 (gr.trans g2))
  · rename_i c hc
    cases hz
    exact h H0 F H σ ρ _ _ R hc (.inr ⟨_, rfl⟩) (fun k' e => by cases e) he
  · cases hz
/-- .. as values -/
theorem de_not (h : DE K CA W te f) : DE K CA W (tNotV te) (cNot f) := by
  intro H0 F H σ ρ r Q R hz hq he
  unfold cNot at hz
  split at hz
  · rename_i b hb
    cases hz
    exact h.blk R hb (.inl ⟨_, rfl⟩) (fun b' e F' H' gr => by cases e; exact ⟨b, rfl, hq _ F' H' gr (Dat.b _)⟩) (fun c e => by cases e)
  · rename_i c hc
    cases hz
    exact h.blk R hc (.inr ⟨_, rfl⟩) (fun b' e => by cases e) he
  · cases hz
theorem de_and (h : DE K CA W ta f1) (h' : DE K CA W tb f2) : DE K CA W (tAndV ta tb) (cAnd f1 f2) := by
  intro H0 F H σ ρ r Q R hz hq he
  unfold cAnd at hz
  split at hz
  · rename_i hb
    refine h.blk R hb (.inl ⟨_, rfl⟩) (fun b e F' H' gr => ?_) (fun c e => by cases e)
    cases e
    exact ⟨true, rfl, iteT (h' H0 F' H' σ ρ r Q (R.up gr) hz (fun v F2 H2 g2 ok => hq v F2 H2 (gr.trans g2) (ok.back gr.h)) fun c e F2 H2 g2 => he c e F2 H2 (gr.trans g2))⟩
  · rename_i hb
    cases hz
    refine h.blk R hb (.inl ⟨_, rfl⟩) (fun b e F' H' gr => ?_) (fun c e => by cases e)
    cases e
    exact ⟨false, rfl, iteF (hq _ F' H' gr (Dat.b _))⟩
  · rename_i c hc
    cases hz
    exact h.blk R hc (.inr ⟨_, rfl⟩) (fun k' e => by cases e) he
  · cases hz
theorem de_or (h : DE K CA W ta f1) (h' : DE K CA W tb f2) : DE K CA W (tOrV ta tb) (cOr f1 f2) := by
  intro H0 F H σ ρ r Q R hz hq he
  unfold cOr at hz
  split at hz
  · rename_i hb
    cases hz
    refine h.blk R hb (.inl ⟨_, rfl⟩) (fun b e F' H' gr => ?_) (fun c e => by cases e)
    cases e
    exact ⟨true, rfl, iteT (hq _ F' H' gr (Dat.b _))⟩
  · rename_i hb
    refine h.blk R hb (.inl ⟨_, rfl⟩) (fun b e F' H' gr => ?_) (fun c e => by cases e)
    cases e
    exact ⟨false, rfl, iteF (h' H0 F' H' σ ρ r Q (R.up gr) hz (fun v F2 H2 g2 ok => hq v F2 H2 (gr.trans g2) (ok.back gr.h)) fun c e F2 H2 g2 => he c e F2 H2 (gr.trans g2))⟩
  · rename_i c hc
    cases hz
    exact h.blk R hc (.inr ⟨_, rfl⟩) (fun k' e => by cases e) he
  · cases hz
/-- a op b op' c -/
def cChain (g g' : PV → PV → Option ER) (f1 f2 f3 : CF) : CF := fun ρ => e1 (fun x => e1 (fun y => match g x y with
  | some (.d (.b true)) => e1 (fun w => g' y w) (f3 ρ)
  | some (.d (.b false)) => some (.d (.b false))
  | _ => none) (f2 ρ)) (f1 ρ)
theorem de_chain {r r' : R2} {g g' : PV → PV → Option ER} (ho : Op2 K r g) (ho' : Op2 K r' g') (ha : DE K CA W ta f1) (hb : DE K CA W tb f2) (hc : DE K CA W tc f3) : DE K CA W (tChain r r' ta tb tc) (cChain g g' f1 f2 f3) := by
  intro H0 F H σ ρ z Q R hz hq he
  refine ha.go R hz he fun x v F1 H1 g1 o1 h1 => ?_
  refine hb.go (R.up g1) h1 (fun c e F' H' gr => he c e F' H' (g1.trans gr)) fun y w F2 H2 g2 o2 h2 => ?_
  have g12 := g1.trans g2
  split at h2
  · rename_i hg
    refine ho F2 H2 v w x y _ _ g2.s (o1.up g2) o2 hg fun u F3 H3 g3 ok => ⟨true, ok.va.b, iteT ?_⟩
    have g13 := g12.trans g3
    refine hc.go (R.up g13) h2 (fun c e F' H' gr => he c e F' H' (g13.trans gr)) fun y' w' F4 H4 g4 o4 h4 => ?_
    exact ho' F4 H4 w w' y y' z Q g4.s ((o2.up g3).up g4) o4 h4 fun u F' H' g5 ok => hq u F' H' (g13.trans (g4.trans g5)) (ok.back (g13.h.trans g4.h))
  · rename_i hg
    cases h2
    refine ho F2 H2 v w x y _ _ g2.s (o1.up g2) o2 hg fun u F3 H3 g3 ok => ⟨false, ok.va.b, iteF ?_⟩
    exact hq _ F3 H3 (g12.trans g3) (Dat.b _)
  · cases h2
end
end DD
/-! what is walked, targets, comprehensions, calls of defs -/
namespace DD
open PySem PySem.Spec L2

/-! ### what is walked -/
/-- J yields the data xs, one after another -/
def Walks (K : PySem.W.Frag) (J : It) (F H : Hp) (xs : List PV) : Prop := ∀ (i : Nat) (F2 H2 : Hp), Same F F2 → Same F2 H2 →
  ((∀ d, xs[i]? = some d → J.go i H2 ∧ ∀ x H3, J.yld i H2 x H3 → ∃ F3, Gr F2 H2 F3 H3 ∧ Dat K F3 x d) ∧ (xs[i]? = none → J.stop i H2))
def CI := (List PV → Option ER) → Sl → Option ER
section
variable (K : PySem.W.Frag) (CA : Err → Addr) (W : WX)
def DI (wi : TI) (it : CI) : Prop := ∀ (H0 F H : Hp) (σ : L2.St) (ρ : Sl) (z : ER) (g : List PV → Option ER) (R : It → Hp → Prop), Rep K CA H0 F H σ ρ → it g ρ = some z →
  (∀ c, z = .e c → ∀ F' H', Gr F H F' H' → W (.ref (CA c)) none σ H') → (∀ xs J F' H', Gr F H F' H' → Walks K J F' H' xs → g xs = some z → R J H') → wi σ H R
end
section
variable {K : PySem.W.Frag} {CA : Err → Addr} {W : WX} {te ta tb tc : TE} {tt tu : TT} {f f1 f2 f3 : CF} {H0 F H : Hp} {σ : L2.St} {ρ : Sl}
def iL (f : CF) : CI := fun g ρ => eS (fun x => match x with | .l xs => g xs | _ => none) (f ρ)
def iT (f : CF) : CI := fun g ρ => eS (fun x => match x with | .t xs => g xs | _ => none) (f ρ)
def iS (f : CF) : CI := fun g ρ => eS (fun x => match x with | .s cs => g (cs.map fun c => .s [c]) | _ => none) (f ρ)
def lim : Nat := 4611686018427387904
def upTo (lo : Int) (n : Nat) : List PV := (List.range n).map fun k => .i (lo + (k : Nat))
def iR1 (f : CF) : CI := fun g ρ => e1 (fun x => match x with | .i n => if n.natAbs < lim then g (upTo 0 n.toNat) else none | _ => none) (f ρ)
def iR2 (f1 f2 : CF) : CI := fun g ρ => e1 (fun x => e1 (fun y => match x, y with
  | .i a, .i b => if a.natAbs < lim ∧ b.natAbs < lim then g (upTo a (b - a).toNat) else none
  | _, _ => none) (f2 ρ)) (f1 ρ)
theorem walks_list {a : Addr} {vs : List V} {xs : List PV} (h : F a = some (.lst vs)) (hs : Dats K F vs xs) : Walks K (Itl K a) F H xs := by
  intro i F2 H2 s1 s2
  have h2 : SqL K H2 a vs := SqL.of (s2 _ _ (s1 _ _ h))
  refine ⟨fun d hd => ?_, fun hn => ?_⟩
  · obtain ⟨v, e1, e2⟩ := hs.get hd
    refine ⟨⟨vs, v, h2, e1⟩, fun x H3 hy => ?_⟩
    obtain ⟨rfl, hy⟩ := hy
    have := hy vs h2
    rw [e1] at this
    cases this
    exact ⟨F2, Gr.refl s2, e2.mono s1⟩
  · refine ⟨vs, h2, ?_⟩
    rw [hs.length]
    exact List.getElem?_eq_none_iff.mp hn
theorem walks_tup {a : Addr} {vs : List V} {xs : List PV} (h : SqT K F a vs) (hs : Dats K F vs xs) : Walks K (Itt K a) F H xs := by
  intro i F2 H2 s1 s2
  have h2 : SqT K H2 a vs := Same.seqT s2 (Same.seqT s1 h)
  refine ⟨fun d hd => ?_, fun hn => ?_⟩
  · obtain ⟨v, e1, e2⟩ := hs.get hd
    refine ⟨⟨vs, v, h2, e1⟩, fun x H3 hy => ?_⟩
    obtain ⟨rfl, hy⟩ := hy
    have := hy vs h2
    rw [e1] at this
    cases this
    exact ⟨F2, Gr.refl s2, e2.mono s1⟩
  · refine ⟨vs, h2, ?_⟩
    rw [hs.length]
    exact List.getElem?_eq_none_iff.mp hn
theorem walks_str (cs : List Nat) : Walks K (Its ⟨cs.toArray⟩) F H (cs.map fun c => .s [c]) := by
  intro i F2 H2 s1 s2
  refine ⟨fun d hd => ?_, fun hn => ?_⟩
  · rw [List.getElem?_map] at hd
    cases hc : cs[i]? with
    | none => rw [hc] at hd; cases hd
    | some c =>
      rw [hc] at hd
      cases hd
      have hi : i < cs.length := (List.getElem?_eq_some_iff.mp hc).1
      refine ⟨by show i < (cs.toArray).size; simpa using hi, fun x H3 hy => ?_⟩
      obtain ⟨rfl, c', h1, rfl⟩ := hy
      have : c' = c := by
        have h2 : cs.toArray[i]? = some c' := h1
        rw [List.getElem?_toArray] at h2
        rw [hc] at h2
        exact (Option.some.inj h2).symm
      subst this
      exact ⟨F2, Gr.refl s2, Dat.s [c']⟩
  · show (cs.toArray).size ≤ i
    have := List.getElem?_eq_none_iff.mp hn
    simpa using this
theorem upTo_get {lo : Int} {n i : Nat} {d : PV} (h : (upTo lo n)[i]? = some d) : i < n ∧ d = .i (lo + (i : Nat)) := by
  unfold upTo at h
  rw [List.getElem?_map] at h
  by_cases hi : i < n
  · rw [List.getElem?_range hi] at h
    cases h
    exact ⟨hi, rfl⟩
  · rw [List.getElem?_eq_none_iff.mpr (by simp; omega)] at h
    cases h
theorem walks_rng (lo : Int) (n : Nat) : Walks K (Itr lo n) F H (upTo lo n) := by
  intro i F2 H2 s1 s2
  refine ⟨fun d hd => ?_, fun hn => ?_⟩
  · obtain ⟨hi, rfl⟩ := upTo_get hd
    refine ⟨hi, fun x H3 hy => ?_⟩
    obtain ⟨rfl, rfl⟩ := hy
    exact ⟨F2, Gr.refl s2, Dat.i _⟩
  · have := List.getElem?_eq_none_iff.mp hn
    unfold upTo at this
    show n ≤ i
    simpa using this
theorem di_list (h : DE K CA W te f) : DI K CA W (iList K te) (iL f) := by
  intro H0 F H σ ρ z g R Rp hz he k
  refine h.goS Rp hz he fun x v F1 H1 g1 o1 e1 => ?_
  cases o1 with
  | l h1 h2 => exact ⟨_, rfl, ⟨_, SqL.of (g1.s _ _ h1)⟩, k _ _ F1 H1 g1 (walks_list h1 h2) e1⟩
  | _ => cases e1
theorem di_tup (h : DE K CA W te f) : DI K CA W (iTup K te) (iT f) := by
  intro H0 F H σ ρ z g R Rp hz he k
  refine h.goS Rp hz he fun x v F1 H1 g1 o1 e1 => ?_
  cases o1 with
  | t h1 h2 => exact ⟨_, rfl, ⟨_, SqT.of (g1.s _ _ h1)⟩, k _ _ F1 H1 g1 (walks_tup (SqT.of h1) h2) e1⟩
  | _ => cases e1
theorem di_str (h : DE K CA W te f) : DI K CA W (iStr te) (iS f) := by
  intro H0 F H σ ρ z g R Rp hz he k
  refine h.goS Rp hz he fun x v F1 H1 g1 o1 e1 => ?_
  cases o1 with
  | s cs => exact ⟨_, rfl, k _ _ F1 H1 g1 (walks_str cs) e1⟩
  | _ => cases e1
theorem di_r1 (h : DE K CA W te f) : DI K CA W (iRng1 (tCons te tNil)) (iR1 f) := by
  intro H0 F H σ ρ z g R Rp hz he k
  refine h.go Rp hz he fun x v F1 H1 g1 o1 e1 => ?_
  cases x with
  | i n =>
    dsimp only at e1
    split at e1
    · rename_i hl
      unfold lim at hl
      exact ⟨n, congrArg (fun t => [t]) o1.i, by omega, by omega, k _ _ F1 H1 g1 (walks_rng 0 n.toNat) e1⟩
    · cases e1
  | _ => cases e1
theorem di_r2 (h : DE K CA W ta f1) (h' : DE K CA W tb f2) : DI K CA W (iRng2 (tCons ta (tCons tb tNil))) (iR2 f1 f2) := by
  intro H0 F H σ ρ z g R Rp hz he k
  refine h.go Rp hz he fun x v F1 H1 g1 o1 e1 => ?_
  refine h'.go (Rp.up g1) e1 (fun c e F' H' gr => he c e F' H' (g1.trans gr)) fun y w F2 H2 g2 o2 e2 => ?_
  split at e2
  · rename_i n m
    split at e2
    · rename_i hl
      unfold lim at hl
      exact ⟨n, m, by rw [o1.i, o2.i], ⟨by omega, by omega, by omega, by omega⟩, k _ _ F2 H2 (g1.trans g2) (walks_rng n (m - n).toNat) e2⟩
    · cases e2
  · cases e2

/-! ### targets -/
abbrev CT := PV → Sl → Option Sl
def tgN (i : Nat) : CT := fun x ρ => some (ρ.set i (.d x))
def tg2 (i j : Nat) : CT := fun x ρ => match x with
  | .t [a, b] => some ((ρ.set i (.d a)).set j (.d b))
  | _ => none
/-- σ' differs from σ at the places is alone -/
structure Chg (is : List Nat) (σ σ' : L2.St) : Prop where
  len : σ'.length = σ.length
  off : ∀ (k : Nat), k ∉ is → σ'[k]? = σ[k]?
theorem chg_set {i : Nat} {v : Option V} : Chg [i] σ (σ.set i v) := ⟨by simp, fun k hk => set_off fun e => hk (by simp [e])⟩
def DG (K : PySem.W.Frag) (g : TG) (tg : CT) (is : List Nat) : Prop := ∀ (CA : Err → Addr) (H0 F H : Hp) (σ : L2.St) (ρ ρ' : Sl) (v : V) (x : PV) (Q : L2.St → Hp → Prop), Rep K CA H0 F H σ ρ → Dat K F v x → tg x ρ = some ρ' →
  (∀ σ', Rep K CA H0 F H σ' ρ' → Chg is σ σ' → Q σ' H) → g v σ H Q
theorem dg_name {i : Nat} : DG K (gName i) (tgN i) [i] := by
  intro CA H0 F H σ ρ ρ' v x Q R hd ht k
  cases ht
  exact k _ (R.setd hd) chg_set
theorem dg_two {i j : Nat} : DG K (gTup K 2 (gCons (gName i) (gCons (gName j) gNil))) (tg2 i j) [i, j] := by
  intro CA H0 F H σ ρ ρ' v x Q R hd ht k
  unfold tg2 at ht
  split at ht
  · cases ht
    cases hd with
    | t h1 h2 =>
      cases h2 with
      | cons d1 h3 =>
        cases h3 with
        | cons d2 h4 =>
          cases h4
          refine ⟨_, _, rfl, SqT.of (R.sub _ _ h1), rfl, _, _, rfl, _, _, rfl, rfl, ?_⟩
          refine k _ ((R.setd d1).setd d2) ⟨by simp, fun k hk => ?_⟩
          rw [set_off fun e => hk (by simp [e]), set_off fun e => hk (by simp [e])]
  · cases ht

/-! ### list comprehensions -/
def wipeS (ρ : Sl) : List Nat → Sl
  | [] => ρ
  | v :: vs => (wipeS ρ vs).set v .u
theorem wipeS_length (ρ : Sl) : ∀ vs : List Nat, (wipeS ρ vs).length = ρ.length
  | [] => rfl
  | v :: vs => by simp [wipeS, wipeS_length ρ vs]
theorem wipe_in {i : Nat} : ∀ {vs : List Nat}, i ∈ vs → i < σ.length → (wipe σ vs)[i]? = some none
  | v :: vs, h, hl => by
    by_cases e : v = i
    · subst e
      show ((wipe σ vs).set v none)[v]? = some none
      exact set_at (by rw [wipe_length]; exact hl)
    · show ((wipe σ vs).set v none)[i]? = some none
      rw [set_off e]
      exact wipe_in (by simpa [Ne.symm e] using h) hl
theorem wipeS_in {i : Nat} : ∀ {vs : List Nat}, i ∈ vs → i < ρ.length → (wipeS ρ vs)[i]? = some .u
  | v :: vs, h, hl => by
    by_cases e : v = i
    · subst e
      show ((wipeS ρ vs).set v .u)[v]? = some .u
      exact set_at (by rw [wipeS_length]; exact hl)
    · show ((wipeS ρ vs).set v .u)[i]? = some .u
      rw [set_off e]
      exact wipeS_in (by simpa [Ne.symm e] using h) hl
theorem wipeS_out {i : Nat} : ∀ {vs : List Nat}, i ∉ vs → (wipeS ρ vs)[i]? = ρ[i]?
  | [], _ => rfl
  | v :: vs, h => by
    show ((wipeS ρ vs).set v .u)[i]? = _
    rw [set_off (fun e => h (by simp [e]))]
    exact wipeS_out (fun q => h (by simp [q]))
theorem Rep.wipe (vs : List Nat) (R : Rep K CA H0 F H σ ρ) : Rep K CA H0 F H (wipe σ vs) (wipeS ρ vs) := by
  refine R.weak (by rw [wipe_length, wipeS_length]; exact R.len) fun i s e => ?_
  by_cases hi : i ∈ vs
  · by_cases hl : i < ρ.length
    · rw [wipeS_in hi hl] at e
      exact .inl (Option.some.inj e).symm
    · rw [List.getElem?_eq_none_iff.mpr (by rw [wipeS_length]; omega)] at e
      cases e
  · rw [wipeS_out hi] at e
    exact .inr ⟨e, wipe_out hi⟩
theorem wipe_chg {σ' : L2.St} {is vs : List Nat} (c : Chg is (wipe σ vs) σ') (h : ∀ i ∈ is, i ∈ vs) : L2.wipe σ' vs = L2.wipe σ vs := by
  have hlen : σ'.length = σ.length := by rw [c.len, wipe_length]
  apply List.ext_getElem?
  intro k
  by_cases hk : k ∈ vs
  · by_cases hl : k < σ.length
    · rw [wipe_in hk hl, wipe_in hk (by rw [hlen]; exact hl)]
    · rw [List.getElem?_eq_none_iff.mpr (by rw [wipe_length, hlen]; omega), List.getElem?_eq_none_iff.mpr (by rw [wipe_length]; omega)]
  · rw [wipe_out hk, c.off k (fun q => hk (h k q))]
/-- what the turns make; t none: no test -/
def lcGo (tg : CT) (t : CF) (f : CF) (ρ : Sl) : List PV → List PV → Option (List PV)
  | [], acc => some acc
  | x :: xs, acc => match tg x ρ with
    | none => none
    | some ρ' => match t ρ' with
      | some (.d (.b true)) => match f ρ' with
        | some (.d y) => lcGo tg t f ρ xs (acc ++ [y])
        | some (.f ys) => lcGo tg t f ρ xs (acc ++ [.l ys])
        | _ => none
      | some (.d (.b false)) => lcGo tg t f ρ xs acc
      | _ => none
def cYes : CF := fun _ => some (.d (.b true))
def cLc (vs : List Nat) (it : CI) (tg : CT) (t f : CF) : CF := fun ρ => it (fun xs => if xs.length ≤ big then (lcGo tg t f (wipeS ρ vs) xs []).map .f else none) ρ
def W0 : WX := fun _ _ _ _ => False
theorem dt_yes : DT K CA W tYes cYes := fun H0 F H σ ρ r Q R hz hT k he => by cases hz; exact k true rfl F H (Gr.refl R.sub)
theorem de_lc {wi : TI} {it : CI} {g : TG} {tg : CT} {is vs : List Nat} (hi : DI K CA W wi it) (hg : DG K g tg is) (ht : DT K CA W0 tt f1) (hf : DE K CA W0 te f2) (hv : ∀ i ∈ is, i ∈ vs) : DE K CA W (tLc wi g tt te vs) (cLc vs it tg f1 f2) := by
  intro H0 F H σ ρ z Q R hz hq he
  refine hi H0 F H σ ρ z _ _ R hz he fun xs J F1 H1 g1 wk e1 => ?_
  split at e1
  · rename_i hl
    cases hgo : lcGo tg f1 f2 (wipeS ρ vs) xs [] with
    | none => rw [hgo] at e1; cases e1
    | some ys =>
      rw [hgo] at e1
      cases e1
      intro D hD
      have R1 : Rep K CA H0 F1 H1 (wipe σ vs) (wipeS ρ vs) := (R.up g1).wipe vs
      have hFD : F1 D = none := g1.s.free hD
      -- the invariant: at turn i, what is made so far, the rest still to come
      let P : Nat → Hp → Prop := fun i H' => ∃ F' acc as, Gr F1 H1 F' H' ∧ F' D = none ∧ H' D = some (.lst as) ∧ Dats K F' as acc ∧ acc.length ≤ i ∧ lcGo tg f1 f2 (wipeS ρ vs) (xs.drop i) acc = some ys
      refine ⟨fun i m H' => P i H' ∧ i + m = xs.length, ⟨xs.length, ⟨F1, [], [], Gr.new g1.s hD, hFD, upd_same, .nil, Nat.le_refl _, hgo⟩, by omega⟩, ?_⟩
      rintro i m H' ⟨⟨F', acc, as, gr, hFD', hHD, hds, hle, hrest⟩, him⟩
      cases hx : xs[i]? with
      | none =>
        left
        refine ⟨(wk i F' H' gr.f gr.s).2 hx, ?_⟩
        have hdr : xs.drop i = [] := List.drop_eq_nil_of_le (List.getElem?_eq_none_iff.mp hx)
        rw [hdr] at hrest
        cases hrest
        exact hq _ F' H' (g1.trans gr) ⟨D, as, rfl, g1.h.free hD, hFD', hHD, hds⟩
      | some d =>
        right
        have hil : i < xs.length := (List.getElem?_eq_some_iff.mp hx).1
        obtain ⟨go, yl⟩ := (wk i F' H' gr.f gr.s).1 d hx
        refine ⟨go, P (i + 1), fun H2 hp => ⟨m - 1, by omega, hp, by omega⟩, fun x H2 hy => ?_⟩
        obtain ⟨F2, g2, hdx⟩ := yl x H2 hy
        have hdrop : xs.drop i = d :: xs.drop (i + 1) := by
          rw [List.drop_eq_getElem_cons hil]
          congr 1
          exact Option.some.inj ((List.getElem?_eq_getElem hil).symm.trans hx)
        rw [hdrop] at hrest
        unfold lcGo at hrest
        cases htg : tg d (wipeS ρ vs) with
        | none => rw [htg] at hrest; cases hrest
        | some ρ' =>
          rw [htg] at hrest
          have R2 : Rep K CA H0 F2 H2 (wipe σ vs) (wipeS ρ vs) := (R1.up gr).up g2
          refine hg CA H0 F2 H2 _ _ _ x d _ R2 hdx htg fun σ2 R3 c3 => ⟨wipe_chg c3 hv, ?_⟩
          have noD : ∀ {F3 H3 : Hp}, Gr F2 H2 F3 H3 → F3 D = none := fun {F3 H3} g3 => by
            cases e : F3 D with
            | none => rfl
            | some o =>
              rcases (g2.trans g3).o D o e with h | h
              · rw [hFD'] at h; cases h
              · rw [hHD] at h; cases h
          dsimp only at hrest
          cases ht1 : f1 ρ' with
          | none => rw [ht1] at hrest; cases hrest
          | some rt =>
            rw [ht1] at hrest
            have isb : (rt = .d (.b true)) ∨ (rt = .d (.b false)) := by
              split at hrest
              · rename_i e; exact .inl (Option.some.inj e)
              · rename_i e; exact .inr (Option.some.inj e)
              · cases hrest
            refine ht H0 F2 H2 σ2 ρ' rt _ R3 ht1 (by rcases isb with rfl | rfl <;> exact .inl ⟨_, rfl⟩) (fun b hb F3 H3 g3 => ?_) (fun c e => by rcases isb with rfl | rfl <;> cases e)
            rcases isb with rfl | rfl
            · cases hb
              refine iteT ?_
              dsimp only at hrest
              have fin : ∀ (y : PV) (v : V) (F4 H4 : Hp), Gr F3 H3 F4 H4 → Dat K F4 v y → lcGo tg f1 f2 (wipeS ρ vs) (xs.drop (i + 1)) (acc ++ [y]) = some ys →
                  ∃ acc', H4 D = some (.lst acc') ∧ acc'.length < sizeLine ∧ P (i + 1) (upd H4 D (.lst (acc' ++ [v]))) := fun y v F4 H4 g4 hd4 hr4 => by
                have g24 := g2.trans (g3.trans g4)
                have hF4 : F4 D = none := noD (g3.trans g4)
                have grA := gr.trans g24
                refine ⟨as, g24.h _ _ hHD, ?_, F4, acc ++ [y], as ++ [v], ⟨grA.f, ?_, ?_, grA.o⟩, hF4, upd_same, (hds.mono g24.f).snoc hd4, by simp; omega, hr4⟩
                · rw [hds.length, big_eq]; omega
                · intro a o e
                  rw [upd_ne (ne_of_none e hD)]
                  exact grA.h a o e
                · intro a o e
                  rw [upd_ne (ne_of_none e hF4)]
                  exact grA.s a o e
              cases hf2 : f2 ρ' with
              | none => rw [hf2] at hrest; cases hrest
              | some r =>
                rw [hf2] at hrest
                refine hf H0 F3 H3 σ2 ρ' r _ (R3.up g3) hf2 (fun v F4 H4 g4 ok => ?_) (fun c e => by subst e; cases hrest)
                cases r with
                | e c => exact ok.elim
                | d y => exact fin y v F4 H4 g4 ok hrest
                | m ys => cases hrest
                | f ys =>
                  obtain ⟨F5, g5, hd5⟩ := ok.frz g4 (.inr ⟨ys, rfl, rfl⟩)
                  exact fin _ v F5 H4 g5 hd5 hrest
            · cases hb
              refine iteF ?_
              have g23 := g2.trans g3
              exact ⟨F3, acc, as, gr.trans g23, noD g3, g23.h _ _ hHD, hds.mono g23.f, by omega, hrest⟩
  · cases e1
end
end DD
/-! statements, calls of defs, defs -/
namespace DD
open PySem PySem.Spec L2

inductive Fl where
  | nx (r : Sl) | rt (r : ER) | bk (r : Sl) | ct (r : Sl) | ex (c : Err)
abbrev CS := Sl → Option Fl
structure Bs (F0 H0 F H : Hp) : Prop where
  f : Same F0 F
  h : Same H0 H
  o : ∀ a o, F a = some o → F0 a = some o ∨ H0 a = none
theorem Bs.up {F0 H0 F H F' H' : Hp} (b : Bs F0 H0 F H) (g : Gr F H F' H') : Bs F0 H0 F' H' :=
  ⟨b.f.trans g.f, b.h.trans g.h, fun a o e => by
    rcases g.o a o e with h | h
    · exact b.o a o h
    · exact .inr (b.h.free h)⟩
theorem Bs.gr {F0 H0 F H : Hp} (b : Bs F0 H0 F H) (s : Same F H) : Gr F0 H0 F H := ⟨b.f, b.h, s, b.o⟩
theorem Bs.refl {F0 H0 : Hp} : Bs F0 H0 F0 H0 := ⟨Same.refl _, Same.refl _, fun _ _ e => .inl e⟩
theorem Bs.trans {F0 H0 F1 H1 F2 H2 : Hp} (a : Bs F0 H0 F1 H1) (b : Bs F1 H0 F2 H2) : Bs F0 H0 F2 H2 := ⟨a.f.trans b.f, b.h, fun c o e => by
  rcases b.o c o e with h | h
  · exact a.o c o h
  · exact .inr h⟩
def At (K : PySem.W.Frag) (CA : Err → Addr) (F0 H0 : Hp) (ρ : Sl) (σ : L2.St) (H : Hp) : Prop := ∃ F, Bs F0 H0 F H ∧ Rep K CA H0 F H σ ρ
section
variable (K : PySem.W.Frag) (CA : Err → Addr) (W : WX)
def Post (F0 H0 : Hp) (D : Ends) : Fl → Prop
  | .nx ρ => ∀ σ H, At K CA F0 H0 ρ σ H → D.nx σ H
  | .bk ρ => ∀ σ H, At K CA F0 H0 ρ σ H → D.bk σ H
  | .ct ρ => ∀ σ H, At K CA F0 H0 ρ σ H → D.ct σ H
  | .rt r => ∀ v F H, Gr F0 H0 F H → VOk K H0 F H v r → D.rt v H
  | .ex c => ∀ σ H, Same H0 H → W (.ref (CA c)) none σ H
def DS (t : TS) (f : CS) : Prop := ∀ (F0 H0 : Hp) (σ : L2.St) (H : Hp) (ρ : Sl) (o : Fl) (D : Ends), At K CA F0 H0 ρ σ H → f ρ = some o → Post K CA W F0 H0 D o → t D σ H
end
section
variable {K : PySem.W.Frag} {CA : Err → Addr} {W : WX} {te ta tb tc : TE} {tt tu : TT} {f f1 f2 f3 : CF} {F0 H0 F H : Hp} {σ : L2.St} {ρ : Sl} {t u v : TS} {s s1 s2 : CS} {D : Ends}

/-! ### small statements -/
def cNext : CS := fun ρ => some (.nx ρ)
def cSeq (f g : CS) : CS := fun ρ => match f ρ with
  | some (.nx ρ') => g ρ'
  | o => o
theorem ds_next : DS K CA W tNext cNext := fun F0 H0 σ H ρ o D A e P => by cases e; exact P σ H A
theorem ds_seq (h1 : DS K CA W t s1) (h2 : DS K CA W u s2) : DS K CA W (tSeq t u) (cSeq s1 s2) := by
  intro F0 H0 σ H ρ o D A e P
  unfold cSeq at e
  split at e
  · rename_i ρ' h
    exact h1 F0 H0 σ H ρ _ _ A h fun σ' H' A' => h2 F0 H0 σ' H' ρ' o D A' e P
  · rename_i hn
    refine h1 F0 H0 σ H ρ o _ A e ?_
    cases o with
    | nx ρ' => exact absurd e (hn ρ')
    | rt r => exact P
    | bk ρ' => exact P
    | ct ρ' => exact P
    | ex c => exact P
def cNever : CS := fun _ => none
theorem ds_never : DS K CA W tNever cNever := fun F0 H0 σ H ρ o D A e P => by cases e
def cBrk : CS := fun ρ => some (.bk ρ)
def cCnt : CS := fun ρ => some (.ct ρ)
theorem ds_brk : DS K CA W tBreak cBrk := fun F0 H0 σ H ρ o D A e P => by cases e; exact P σ H A
theorem ds_cnt : DS K CA W tCont cCnt := fun F0 H0 σ H ρ o D A e P => by cases e; exact P σ H A
theorem DE.at {Q : VK} {r : ER} (h : DE K CA W te f) (A : At K CA F0 H0 ρ σ H) (hz : f ρ = some r)
    (k : ∀ F, Bs F0 H0 F H → Rep K CA H0 F H σ ρ → ∀ v F' H', Gr F H F' H' → VOk K H F' H' v r → Q v H') (he : ∀ c, r = .e c → ∀ H', Same H0 H' → W (.ref (CA c)) none σ H') : te σ H Q := by
  obtain ⟨F, b, R⟩ := A
  exact h H0 F H σ ρ r Q R hz (fun v F' H' g ok => k F b R v F' H' g ok) fun c e F' H' g => he c e H' (b.h.trans g.h)
def lS (k : PV → Option Fl) : Option ER → Option Fl
  | some (.d x) => k x
  | some (.f xs) => k (.l xs)
  | some (.e c) => some (.ex c)
  | _ => none
theorem DE.atS {Q : VK} {o : Fl} {k : PV → Option Fl} (h : DE K CA W te f) (A : At K CA F0 H0 ρ σ H) (hz : lS k (f ρ) = some o)
    (q : ∀ F, Bs F0 H0 F H → Rep K CA H0 F H σ ρ → ∀ v x F' H', Gr F H F' H' → Dat K F' v x → k x = some o → Q v H') (he : ∀ c, o = .ex c → ∀ H', Same H0 H' → W (.ref (CA c)) none σ H') : te σ H Q := by
  cases h1 : f ρ with
  | none => rw [h1] at hz; cases hz
  | some r =>
    rw [h1] at hz
    refine h.at A h1 (fun F b R v F' H' g ok => ?_) fun c e H' s => ?_
    · cases r with
      | e c => exact ok.elim
      | d x => exact q F b R v x F' H' g ok hz
      | m xs => cases hz
      | f xs =>
        obtain ⟨F2, g2, hd⟩ := ok.frz g (.inr ⟨xs, rfl, rfl⟩)
        exact q F b R v (.l xs) F2 H' g2 hd hz
    · subst e
      exact he c (Option.some.inj hz).symm H' s
def cAsg (i : Nat) (f : CF) : CS := fun ρ => lS (fun x => some (.nx (ρ.set i (.d x)))) (f ρ)
def cAsgM (i : Nat) (f : CF) : CS := fun ρ => match f ρ with
  | some (.f xs) => some (.nx (ρ.set i (.m xs)))
  | some (.e c) => some (.ex c)
  | _ => none
def cDrop (f : CF) : CS := fun ρ => match f ρ with
  | some (.e c) => some (.ex c)
  | some _ => some (.nx ρ)
  | none => none
theorem post_ex {c : Err} {σ : L2.St} (o : Fl) (e : o = .ex c) (P : Post K CA W F0 H0 D o) : ∀ H', Same H0 H' → W (.ref (CA c)) none σ H' := by subst e; exact P σ
theorem ds_asg {i : Nat} (h : DE K CA W te f) : DS K CA W (tAsg te (gName i)) (cAsg i f) := by
  intro F0 H0 σ H ρ o D A e P
  refine h.atS A e (fun F b R v x F' H' g hd e2 => ?_) (fun c e => post_ex o e P)
  cases e2
  exact P _ _ ⟨F', b.up g, (R.up g).setd hd⟩
theorem ds_asgM {i : Nat} (h : DE K CA W te f) : DS K CA W (tAsg te (gName i)) (cAsgM i f) := by
  intro F0 H0 σ H ρ o D A e P
  unfold cAsgM at e
  split at e
  · rename_i xs h1
    cases e
    refine h.at A h1 (fun F b R v F' H' g ok => ?_) (fun c e => by cases e)
    obtain ⟨p, vs, rfl, h0, h2, h3, h4⟩ := ok
    exact P _ _ ⟨F', b.up g, (R.up g).setm h2 (b.h.free h0) h3 h4 ⟨F, R⟩ h0 g.h⟩
  · rename_i c h1
    cases e
    exact h.at A h1 (fun F b R v F' H' g ok => ok.elim) (fun c' e H' s => by cases e; exact P σ H' s)
  · cases e
theorem ds_drop (h : DE K CA W te f) : DS K CA W (tDrop te) (cDrop f) := by
  intro F0 H0 σ H ρ o D A e P
  unfold cDrop at e
  split at e
  · rename_i c h1
    cases e
    exact h.at A h1 (fun F b R v F' H' g ok => ok.elim) (fun c' e H' s => by cases e; exact P σ H' s)
  · rename_i r hn h1
    cases e
    refine h.at A h1 (fun F b R v F' H' g ok => P _ _ ⟨F', b.up g, R.up g⟩) (fun c e => absurd e (by rintro rfl; exact hn c rfl))
  · cases e
def cRet (f : CF) : CS := fun ρ => match f ρ with
  | some (.d x) => some (.rt (.d x))
  | some (.f xs) => some (.rt (.f xs))
  | some (.e c) => some (.ex c)
  | _ => none
/-- return name -/
def cRetV (i : Nat) : CS := fun ρ => match ρ[i]? with
  | some (.d x) => some (.rt (.d x))
  | some (.m xs) => some (.rt (.f xs))
  | _ => none
def cRetN : CS := fun _ => some (.rt (.d .n))
theorem ds_retN : DS K CA W tRetN cRetN := fun F0 H0 σ H ρ o D A e P => by
  cases e
  obtain ⟨F, b, R⟩ := A
  exact P _ F H (b.gr R.sub) Dat.n
theorem ds_ret (h : DE K CA W te f) : DS K CA W (tRet te) (cRet f) := by
  intro F0 H0 σ H ρ o D A e P
  unfold cRet at e
  split at e
  · rename_i x h1
    cases e
    refine h.at A h1 (fun F b R v F' H' g ok => ?_) (fun c e => by cases e)
    exact P v F' H' ((b.up g).gr g.s) ok
  · rename_i xs h1
    cases e
    refine h.at A h1 (fun F b R v F' H' g ok => ?_) (fun c e => by cases e)
    exact P v F' H' ((b.up g).gr g.s) (ok.back b.h)
  · rename_i c h1
    cases e
    exact h.at A h1 (fun F b R v F' H' g ok => ok.elim) (fun c' e H' s => by cases e; exact P σ H' s)
  · cases e
theorem ds_retV {i : Nat} : DS K CA W (tRet (tVar i)) (cRetV i) := by
  intro F0 H0 σ H ρ o D A e P
  unfold cRetV at e
  obtain ⟨F, b, R⟩ := A
  split at e
  · rename_i x hi
    cases e
    obtain ⟨v, h1, h2⟩ := R.dat i x hi
    exact ⟨v, h1, P v F H (b.gr R.sub) h2⟩
  · rename_i xs hi
    cases e
    obtain ⟨p, vs, e1, e2, e3, e4, e5⟩ := R.mt hi
    exact ⟨_, e1, P _ F H (b.gr R.sub) ⟨p, vs, rfl, e3, e2, e4, e5⟩⟩
  · cases e
def cIf (c : CF) (f g : CS) : CS := fun ρ => match c ρ with
  | some (.d (.b true)) => f ρ
  | some (.d (.b false)) => g ρ
  | some (.e c) => some (.ex c)
  | _ => none
theorem ds_if (hc : DT K CA W tt f) (h1 : DS K CA W t s1) (h2 : DS K CA W u s2) : DS K CA W (tIfS tt t u) (cIf f s1 s2) := by
  intro F0 H0 σ H ρ o D A e P
  obtain ⟨F, b, R⟩ := A
  unfold cIf at e
  split at e
  · rename_i hb
    refine hc H0 F H σ ρ _ _ R hb (.inl ⟨_, rfl⟩) (fun k q F' H' g => ?_) (fun c e => by cases e)
    cases q
    exact iteT (h1 F0 H0 σ H' ρ o D ⟨F', b.up g, R.up g⟩ e P)
  · rename_i hb
    refine hc H0 F H σ ρ _ _ R hb (.inl ⟨_, rfl⟩) (fun k q F' H' g => ?_) (fun c e => by cases e)
    cases q
    exact iteF (h2 F0 H0 σ H' ρ o D ⟨F', b.up g, R.up g⟩ e P)
  · rename_i c hc'
    cases e
    refine hc H0 F H σ ρ _ _ R hc' (.inr ⟨_, rfl⟩) (fun k q => by cases q) (fun c e F' H' g => ?_)
    cases e
    exact P σ H' (b.h.trans g.h)
  · cases e

/-! ### a slot's list: append, extend, insert, reverse, an item stored -/
theorem At.mut {i : Nat} {xs : List PV} (A : At K CA F0 H0 ρ σ H) (hi : ρ[i]? = some (.m xs)) : ∃ F p vs, Bs F0 H0 F H ∧ Rep K CA H0 F H σ ρ ∧ σ[i]? = some (some (.ref p)) ∧ H0 p = none ∧ H p = some (.lst vs) ∧ Dats K F vs xs := by
  obtain ⟨F, b, R⟩ := A
  obtain ⟨p, vs, e1, e2, e3, e4, e5⟩ := R.mt hi
  exact ⟨F, p, vs, b, R, e1, e3, e4, e5⟩
theorem Bs.wr {p : Addr} {o : HO} (b : Bs F0 H0 F H) (h : H0 p = none) : Bs F0 H0 F (upd H p o) := ⟨b.f, fun a x e => by rw [upd_ne (ne_of_none e h)]; exact b.h a x e, b.o⟩
def cApp (i : Nat) (f : CF) : CS := fun ρ => match ρ[i]? with
  | some (.m xs) => lS (fun y => if xs.length < big then some (.nx (ρ.set i (.m (xs ++ [y])))) else none) (f ρ)
  | _ => none
theorem ds_app {i : Nat} (h : DE K CA W te f) : DS K CA W (tDrop (tBM K "list" rAppend (tVar i) (tCons te tNil))) (cApp i f) := by
  intro F0 H0 σ H ρ o D A e P
  unfold cApp at e
  split at e
  · rename_i xs hi
    obtain ⟨F, p, vs, b, R, e1, e2, e3, e4⟩ := A.mut hi
    refine ⟨.ref p, e1, .inl ⟨rfl, vs, SqL.of e3⟩, ?_⟩
    refine h.atS ⟨F, b, R⟩ e (fun F1 b1 R1 v y F' H' g hd e2' => ?_) (fun c e => post_ex o e P)
    split at e2'
    · rename_i hl
      cases e2'
      obtain ⟨q, ws, f1, f2, f3, f4, f5⟩ := (R1.up g).mt hi
      rw [e1] at f1
      cases f1
      refine ⟨p, ws, v, rfl, rfl, f4, by rw [f5.length, big_eq]; exact hl, ?_⟩
      exact P _ _ ⟨F', (b1.up g).wr f3, (R1.up g).wr hi e1 (f5.snoc hd)⟩
    · cases e2'
  · cases e
def rIns : V → List V → Hp → VK → Prop := fun x vs H Q => ∃ (l : Addr) (xs : List V) (i : Int) (y : V), x = .ref l ∧ vs = [.int i, y] ∧ H l = some (.lst xs) ∧ xs.length < sizeLine ∧ 0 ≤ i ∧ i < 2 ^ 63 ∧
    Q .non (upd H l (.lst (xs.take i.toNat ++ [y] ++ xs.drop i.toNat)))
def cIns (i : Nat) (fk f : CF) : CS := fun ρ => match ρ[i]? with
  | some (.m xs) => (match fk ρ with
    | some (.d (.i k)) => lS (fun y => if xs.length < big ∧ 0 ≤ k ∧ k.natAbs < lim then some (.nx (ρ.set i (.m (xs.take k.toNat ++ [y] ++ xs.drop k.toNat)))) else none) (f ρ)
    | some (.e c) => some (.ex c)
    | _ => none)
  | _ => none
theorem ds_ins {i : Nat} (hk : DE K CA W ta f1) (h : DE K CA W te f) : DS K CA W (tDrop (tBM K "list" rIns (tVar i) (tCons ta (tCons te tNil)))) (cIns i f1 f) := by
  intro F0 H0 σ H ρ o D A e P
  unfold cIns at e
  split at e
  · rename_i xs hi
    obtain ⟨F, p, vs, b, R, e1, e2, e3, e4⟩ := A.mut hi
    refine ⟨.ref p, e1, .inl ⟨rfl, vs, SqL.of e3⟩, ?_⟩
    split at e
    · rename_i k hk1
      refine hk.at ⟨F, b, R⟩ hk1 (fun F1 b1 R1 w F2 H2 g2 ok2 => ?_) (fun c e => by cases e)
      refine h.atS ⟨F2, b1.up g2, R1.up g2⟩ e (fun F1 b1 R1 v y F' H' g hd e2' => ?_) (fun c e => post_ex o e P)
      split at e2'
      · rename_i hl
        cases e2'
        obtain ⟨q, ws, f1, f2, f3, f4, f5⟩ := (R1.up g).mt hi
        rw [e1] at f1
        cases f1
        unfold lim at hl
        refine ⟨p, ws, k, v, rfl, by rw [ok2.va.i], f4, by rw [f5.length, big_eq]; exact hl.1, hl.2.1, by omega, ?_⟩
        refine P _ _ ⟨F', (b1.up g).wr f3, (R1.up g).wr hi e1 (((f5.take _).snoc hd).append (f5.drop _))⟩
      · cases e2'
    · rename_i c hk1
      cases e
      exact hk.at ⟨F, b, R⟩ hk1 (fun F1 b1 R1 w F2 H2 g2 ok2 => ok2.elim) (fun c' e H' s => by cases e; exact P σ H' s)
    · cases e
  · cases e
def cExt (i : Nat) (f : CF) : CS := fun ρ => match ρ[i]? with
  | some (.m xs) => lS (fun y => match y with | .l ys => if xs.length + ys.length ≤ big then some (.nx (ρ.set i (.m (xs ++ ys)))) else none | _ => none) (f ρ)
  | _ => none
theorem ds_ext {i : Nat} (h : DE K CA W te f) : DS K CA W (tDrop (tBM K "list" rExtend (tVar i) (tCons te tNil))) (cExt i f) := by
  intro F0 H0 σ H ρ o D A e P
  unfold cExt at e
  split at e
  · rename_i xs hi
    obtain ⟨F, p, vs, b, R, e1, e2, e3, e4⟩ := A.mut hi
    refine ⟨.ref p, e1, .inl ⟨rfl, vs, SqL.of e3⟩, ?_⟩
    refine h.atS ⟨F, b, R⟩ e (fun F1 b1 R1 v y F' H' g hd e2' => ?_) (fun c e => post_ex o e P)
    split at e2'
    · split at e2'
      · rename_i ys hl
        cases e2'
        obtain ⟨q, ws, f1, f2, f3, f4, f5⟩ := (R1.up g).mt hi
        rw [e1] at f1
        cases f1
        cases hd with
        | l d1 d2 =>
          refine ⟨p, _, ws, _, rfl, rfl, f4, g.s _ _ d1, by rw [f5.length, d2.length, big_eq]; exact hl, ?_⟩
          exact P _ _ ⟨F', (b1.up g).wr f3, (R1.up g).wr hi e1 (f5.append d2)⟩
      · cases e2'
    · cases e2'
  · cases e
def cRev (i : Nat) : CS := fun ρ => match ρ[i]? with
  | some (.m xs) => some (.nx (ρ.set i (.m xs.reverse)))
  | _ => none
theorem ds_rev {i : Nat} : DS K CA W (tDrop (tBM0 K "list" rReverse (tVar i))) (cRev i) := by
  intro F0 H0 σ H ρ o D A e P
  unfold cRev at e
  split at e
  · rename_i xs hi
    cases e
    obtain ⟨F, p, vs, b, R, e1, e2, e3, e4⟩ := A.mut hi
    exact ⟨.ref p, e1, .inl ⟨rfl, vs, SqL.of e3⟩, p, vs, rfl, rfl, e3, P _ _ ⟨F, b.wr e2, R.wr hi e1 e4.reverse⟩⟩
  · cases e
/-- a slot's list is data from here on -/
def cFrz (i : Nat) (s : CS) : CS := fun ρ => match ρ[i]? with
  | some (.m xs) => s (ρ.set i (.d (.l xs)))
  | some (.d _) => s ρ
  | _ => none
theorem ds_frz {i : Nat} (h : DS K CA W t s) : DS K CA W t (cFrz i s) := by
  intro F0 H0 σ H ρ o D A e P
  unfold cFrz at e
  split at e
  · rename_i xs hi
    obtain ⟨F, b, R⟩ := A
    obtain ⟨F', s1, s2, R'⟩ := R.frz hi
    refine h F0 H0 σ H _ o D ⟨F', ⟨b.f.trans s1, b.h, fun a x e => ?_⟩, R'⟩ e P
    rcases s2 a x e with q | q
    · exact b.o a x q
    · exact .inr q
  · exact h F0 H0 σ H ρ o D A e P
  · cases e

/-! ### loops -/
def forGo (tg : CT) (b : CS) : List PV → Sl → Option Fl
  | [], ρ => some (.nx ρ)
  | x :: xs, ρ => match tg x ρ with
    | none => none
    | some ρ' => match b ρ' with
      | some (.nx ρ'') => forGo tg b xs ρ''
      | some (.ct ρ'') => forGo tg b xs ρ''
      | some (.bk ρ'') => some (.nx ρ'')
      | o => o
def cFor (it : CI) (tg : CT) (b : CS) : CS := fun ρ => match it (fun xs => some (.f xs)) ρ with
  | some (.f xs) => forGo tg b xs ρ
  | some (.e c) => some (.ex c)
  | _ => none
theorem At.base {F1 H1 : Hp} (b : Bs F0 H0 F1 H1) (A : At K CA F1 H0 ρ σ H) : At K CA F0 H0 ρ σ H := by
  obtain ⟨F, b2, R⟩ := A
  exact ⟨F, b.trans b2, R⟩
theorem Post.base {F1 H1 : Hp} {o : Fl} (b : Bs F0 H0 F1 H1) (P : Post K CA W F0 H0 D o) : Post K CA W F1 H0 D o := by
  cases o with
  | nx ρ => exact fun σ H A => P σ H (A.base b)
  | bk ρ => exact fun σ H A => P σ H (A.base b)
  | ct ρ => exact fun σ H A => P σ H (A.base b)
  | rt r => exact fun v F H g ok => P v F H ((b.trans ⟨g.f, g.h, g.o⟩).gr g.s) ok
  | ex c => exact P
theorem ds_for {wi : TI} {it : CI} {g : TG} {tg : CT} {is : List Nat} (hi : DI K CA W wi it) (hg : DG K g tg is) (hb : DS K CA W t s) : DS K CA W (tFor wi g t) (cFor it tg s) := by
  intro F0 H0 σ H ρ o D A e P
  obtain ⟨F, b, R⟩ := A
  unfold cFor at e
  split at e
  · rename_i xs h1
    refine hi H0 F H σ ρ _ _ _ R h1 (fun c e => by cases e) fun xs' J F1 H1 g1 wk e1 => ?_
    cases e1
    have b1 : Bs F0 H0 F1 H1 := b.up g1
    let P1 : Nat → L2.St → Hp → Prop := fun i σ' H' => ∃ ρ', At K CA F1 H0 ρ' σ' H' ∧ (∃ F2, Same F1 F2 ∧ Bs F1 H0 F2 H' ∧ Rep K CA H0 F2 H' σ' ρ') ∧ forGo tg s (xs.drop i) ρ' = some o
    refine ⟨fun i m σ' H' => P1 i σ' H' ∧ i + m = max xs.length i, ⟨xs.length, ⟨ρ, ⟨F1, ⟨Same.refl _, b1.h, fun _ _ e => .inl e⟩, R.up g1⟩, ⟨F1, Same.refl _, ⟨Same.refl _, b1.h, fun _ _ e => .inl e⟩, R.up g1⟩, e⟩, by omega⟩, ?_⟩
    rintro i m σ' H' ⟨⟨ρ', _, ⟨F2, s2, b2, R2⟩, hrest⟩, him⟩
    cases hx : xs[i]? with
    | none =>
      left
      refine ⟨(wk i F2 H' s2 R2.sub).2 hx, ?_⟩
      have hdr : xs.drop i = [] := List.drop_eq_nil_of_le (List.getElem?_eq_none_iff.mp hx)
      rw [hdr] at hrest
      cases hrest
      exact P σ' H' ⟨F2, b1.trans b2, R2⟩
    | some d =>
      right
      have hil : i < xs.length := (List.getElem?_eq_some_iff.mp hx).1
      obtain ⟨go, yl⟩ := (wk i F2 H' s2 R2.sub).1 d hx
      refine ⟨go, P1 (i + 1), fun σ2 H2 hp => ⟨m - 1, by omega, hp, by omega⟩, fun x H2 hy => ?_⟩
      obtain ⟨F3, g3, hdx⟩ := yl x H2 hy
      have hdrop : xs.drop i = d :: xs.drop (i + 1) := by
        rw [List.drop_eq_getElem_cons hil]
        congr 1
        exact Option.some.inj ((List.getElem?_eq_getElem hil).symm.trans hx)
      rw [hdrop] at hrest
      unfold forGo at hrest
      cases htg : tg d ρ' with
      | none => rw [htg] at hrest; cases hrest
      | some ρ2 =>
        rw [htg] at hrest
        dsimp only at hrest
        refine hg CA H0 F3 H2 σ' ρ' ρ2 x d _ (R2.up g3) hdx htg fun σ2 R3 _ => ?_
        have A3 : At K CA F1 H0 ρ2 σ2 H2 := ⟨F3, b2.up g3, R3⟩
        have nxt : ∀ ρ3, forGo tg s (xs.drop (i + 1)) ρ3 = some o → ∀ σ4 H4, At K CA F1 H0 ρ3 σ4 H4 → P1 (i + 1) σ4 H4 := fun ρ3 hr σ4 H4 A4 => by
          obtain ⟨F4, b4, R4⟩ := id A4
          exact ⟨ρ3, A4, ⟨F4, b4.f, b4, R4⟩, hr⟩
        split at hrest
        · rename_i ρ3 hb3
          exact hb F1 H0 σ2 H2 ρ2 _ _ A3 hb3 (nxt ρ3 hrest)
        · rename_i ρ3 hb3
          exact hb F1 H0 σ2 H2 ρ2 _ _ A3 hb3 (nxt ρ3 hrest)
        · rename_i ρ3 hb3
          cases hrest
          exact hb F1 H0 σ2 H2 ρ2 _ _ A3 hb3 (fun σ4 H4 A4 => P σ4 H4 (A4.base b1))
        · rename_i n1 n2 n3
          refine hb F1 H0 σ2 H2 ρ2 o _ A3 hrest ?_
          cases o with
          | nx ρ3 => exact absurd hrest (n1 ρ3)
          | ct ρ3 => exact absurd hrest (n2 ρ3)
          | bk ρ3 => exact absurd hrest (n3 ρ3)
          | rt r => exact Post.base b1 P
          | ex c => exact P
  · rename_i c h1
    cases e
    refine hi H0 F H σ ρ _ _ _ R h1 (fun c' e F' H' g => ?_) fun xs' J F1 H1 g1 wk e1 => by cases e1
    cases e
    exact P σ H' (b.h.trans g.h)
  · cases e
def whGo (c : CF) (b : CS) : Nat → Sl → Option Fl
  | 0, _ => none
  | n + 1, ρ => match c ρ with
    | some (.d (.b false)) => some (.nx ρ)
    | some (.d (.b true)) => (match b ρ with
      | some (.nx ρ') => whGo c b n ρ'
      | some (.ct ρ') => whGo c b n ρ'
      | some (.bk ρ') => some (.nx ρ')
      | o => o)
    | some (.e c) => some (.ex c)
    | _ => none
def cWh (n : Nat) (c : CF) (b : CS) : CS := fun ρ => whGo c b n ρ
theorem ds_wh {n : Nat} (hc : DT K CA W tt f) (hb : DS K CA W t s) : DS K CA W (tWhile tt t) (cWh n f s) := by
  intro F0 H0 σ H ρ o D A e P
  refine ⟨fun m σ' H' => ∃ ρ', At K CA F0 H0 ρ' σ' H' ∧ whGo f s m ρ' = some o, ⟨n, ρ, A, e⟩, ?_⟩
  rintro m σ' H' ⟨ρ', A', hr⟩
  cases m with
  | zero => cases hr
  | succ m =>
    unfold whGo at hr
    obtain ⟨F, b, R⟩ := A'
    split at hr
    · rename_i hf
      cases hr
      refine hc H0 F H' σ' ρ' _ _ R hf (.inl ⟨_, rfl⟩) (fun k q F' H2 g => ?_) (fun c e => by cases e)
      cases q
      exact L2.iteF (P σ' H2 ⟨F', b.up g, R.up g⟩)
    · rename_i hf
      refine hc H0 F H' σ' ρ' _ _ R hf (.inl ⟨_, rfl⟩) (fun k q F' H2 g => ?_) (fun c e => by cases e)
      cases q
      refine L2.iteT ⟨fun σ4 H4 => ∃ ρ4, At K CA F0 H0 ρ4 σ4 H4 ∧ whGo f s m ρ4 = some o, fun σ4 H4 h => ⟨m, Nat.lt_succ_self m, h⟩, ?_⟩
      have A3 : At K CA F0 H0 ρ' σ' H2 := ⟨F', b.up g, R.up g⟩
      split at hr
      · rename_i ρ3 hb3
        exact hb F0 H0 σ' H2 ρ' _ _ A3 hb3 fun σ4 H4 A4 => ⟨ρ3, A4, hr⟩
      · rename_i ρ3 hb3
        exact hb F0 H0 σ' H2 ρ' _ _ A3 hb3 fun σ4 H4 A4 => ⟨ρ3, A4, hr⟩
      · rename_i ρ3 hb3
        cases hr
        exact hb F0 H0 σ' H2 ρ' _ _ A3 hb3 fun σ4 H4 A4 => P σ4 H4 A4
      · rename_i n1 n2 n3
        refine hb F0 H0 σ' H2 ρ' o _ A3 hr ?_
        cases o with
        | nx ρ3 => exact absurd hr (n1 ρ3)
        | ct ρ3 => exact absurd hr (n2 ρ3)
        | bk ρ3 => exact absurd hr (n3 ρ3)
        | rt r => exact P
        | ex c => exact P
    · rename_i c hf
      cases hr
      refine hc H0 F H' σ' ρ' _ _ R hf (.inr ⟨_, rfl⟩) (fun k q => by cases q) (fun c e F' H2 g => ?_)
      cases e
      exact P σ' H2 (b.h.trans g.h)
    · cases hr

/-! ### raise; calls; defs -/
def cRaise (c : Err) : CS := fun _ => some (.ex c)
theorem ds_raise {c : Err} : DS K CA W (fun _ σ H => (fun (_ : L2.St) (H : Hp) (Q : XK) => Q (.ref (CA c)) none H) σ H fun cls d H' => W cls d σ H') (cRaise c) := by
  intro F0 H0 σ H ρ o D A e P
  cases e
  obtain ⟨F, b, R⟩ := A
  exact P σ H b.h
/-- a def's promise: what it gives for data -/
def spD (K : PySem.W.Frag) (CA : Err → Addr) (φ : List PV → Option ER) : Sp := fun vs H Q E => ∃ F ds r, Same F H ∧ Dats K F vs ds ∧ φ ds = some r ∧ (∀ v F' H', Gr F H F' H' → VOk K H F' H' v r → Q v H') ∧
  (∀ c, r = .e c → ∀ H', Same H H' → E (.ref (CA c)) none H')
def cCall (φ : List PV → Option ER) (fs : List CF) : CF := cA φ fs
theorem de_call {φ : List PV → Option ER} {tas : TA} {fs : List CF} (h : DA K CA W tas fs) : DE K CA W (tCallS (spD K CA φ) (WE W) tas) (cCall φ fs) := by
  intro H0 F H σ ρ z Q R hz hq he
  refine h H0 F H σ ρ z _ _ R hz he fun xs vs F1 H1 g1 o1 e1 => ?_
  exact ⟨F1, xs, z, g1.s, o1, e1, fun v F' H' g ok => hq v F' H' (g1.trans g) (ok.back g1.h), fun c e H' s => he c e F1 H' ⟨g1.f, g1.h.trans s, g1.s.trans s, g1.o⟩⟩
def ini (n : Nat) (ds : List PV) : Sl := ds.map .d ++ List.replicate (n - ds.length) .u
/-- what a def gives, by its body: k parameters, n names -/
def fnD (k n : Nat) (s : CS) (ds : List PV) : Option ER := if ds.length = k then (match s (ini n ds) with
  | some (.rt r) => some r
  | some (.nx _) => some (.d .n)
  | some (.ex c) => some (.e c)
  | _ => none) else none
theorem ini_get : ∀ {ds : List PV} {n i : Nat} {x : Sl1}, (ini n ds)[i]? = some x → (∃ y, ds[i]? = some y ∧ x = .d y) ∨ x = .u := by
  intro ds n i x h
  unfold ini at h
  by_cases hi : i < ds.length
  · rw [List.getElem?_append_left (by simpa using hi), List.getElem?_map, List.getElem?_eq_getElem hi] at h
    exact .inl ⟨_, List.getElem?_eq_getElem hi, (Option.some.inj h).symm⟩
  · rw [List.getElem?_append_right (by simpa using hi), List.getElem?_replicate] at h
    split at h
    · exact .inr (Option.some.inj h).symm
    · cases h
theorem rep_ini {N : List Str} {vs : List V} {ds : List PV} (s : Same F H) (h : Dats K F vs ds) : Rep K CA H F H (L2.start N vs) (ini N.length ds) where
  len := by unfold L2.start ini; simp [h.length]
  sub := s
  dat := fun i x e => by
    rcases ini_get e with ⟨y, h1, h2⟩ | h2
    · cases h2
      obtain ⟨v, h3, h4⟩ := h.get h1
      refine ⟨v, ?_, h4⟩
      unfold L2.start
      have hi : i < vs.length := (List.getElem?_eq_some_iff.mp h3).1
      rw [List.getElem?_append_left (by simpa using hi), List.getElem?_map, h3]
      rfl
    · cases h2
  exn := fun i x e => by
    rcases ini_get e with ⟨y, h1, h2⟩ | h2 <;> cases h2
  ow := by
    refine ⟨fun _ => [], fun i a h => (by cases h), fun i j a h => (by cases h), fun i s e w => ?_⟩
    rcases ini_get e with ⟨y, h1, h2⟩ | h2 <;> subst h2 <;> cases w
end
section
variable {P : Program} {w : World} {K : PySem.W.Frag} {mg : Str → Option Value} {base : Heap} {CA : Err → Addr}
/-- THE RULE for a def: its body and what that gives -/
theorem okD {x qual : Str} {st : Stmt} {f : Addr} {fd : FuncData} {N ps : List Str} {k : Nat} {s : CS} (F : Fun K x qual st f fd) (S : FnScope N ps (defScope st))
    (hbody : ∀ (cdv : Value) (A : Around) (outer : List Env) (s0 : Shared) (H : Hp) (E : XK), Room k (A.deeper (PyProof.Rows.envOfC qual (defScope st) s0.heap.objs.size f cdv)) →
      ∃ t, PSs (cxOf (L2.CX P w) P w K mg base N qual (defScope st) f cdv A outer s0 H E) (defBody st) t ∧ DS K CA (fun cls d _ H => E cls d H) t s) :
    FnOk P w K mg base (L2.CX P w) (k + 1) f fd ps (spD K CA (fnD ps.length N.length s)) := by
  refine F.okX S (fun vs H Q E h => ?_) (fun cdv A outer s0 H vs Q E hr h => ?_)
  · obtain ⟨F, ds, r, _, hd, hz, _⟩ := h
    unfold fnD at hz
    split at hz
    · rename_i hl; rw [hd.length]; exact hl
    · cases hz
  · obtain ⟨t, h1, h2⟩ := hbody cdv A outer s0 H E hr
    refine ⟨t, h1, ?_⟩
    obtain ⟨F, ds, r, sm, hd, hz, hq, he⟩ := h
    unfold fnD at hz
    split at hz
    · have A0 : At K CA F H (ini N.length ds) (L2.start N vs) H := ⟨F, Bs.refl, rep_ini sm hd⟩
      split at hz
      · rename_i r' e
        cases hz
        exact h2 F H _ H _ _ _ A0 e fun v F' H' g ok => hq v F' H' g ok
      · rename_i ρ e
        cases hz
        refine h2 F H _ H _ _ _ A0 e fun σ' H' A' => ?_
        obtain ⟨F', b, R⟩ := A'
        exact hq .non F' H' (b.gr R.sub) Dat.n
      · rename_i c e
        cases hz
        exact h2 F H _ H _ _ _ A0 e fun σ' H' s' => he c rfl H' s'
      · cases hz
    · cases hz
end
end DD
/-! the rules that a def's proof is written in: what runs, and what it gives, in one -/
namespace DD
open PySem PySem.Spec L2
section
variable (X : Cx) (K : PySem.W.Frag) (CA : Err → Addr) (W : WX)
structure PX (e : Expr) (te : TE) (f : CF) : Prop where
  pe : PE X e te
  de : DE K CA W te f
structure PTX (e : Expr) (tt : TT) (f : CF) : Prop where
  pt : PT X e tt
  dt : DT K CA W tt f
structure PWX (e : Expr) (tt : TT) (f : CF) : Prop where
  pw : PW X e tt
  dt : DT K CA W tt f
structure PAX (es : List Expr) (ta : TA) (fs : List CF) : Prop where
  pa : PA X es ta
  da : DA K CA W ta fs
structure POX (e : Option Expr) (to : TO) (p : Option CF) : Prop where
  po : PO X e to
  od : DO K CA W to p
structure PIX (tg iter : Expr) (wi : TI) (it : CI) : Prop where
  pi : PI X tg iter wi
  di : DI K CA W wi it
structure PSX (st : Stmt) (t : TS) (s : CS) : Prop where
  ps : PS X st t
  ds : DS K CA W t s
structure PSsX (st : List Stmt) (t : TS) (s : CS) : Prop where
  ps : PSs X st t
  ds : DS K CA W t s
end
structure PGX (X : Cx) (K : PySem.W.Frag) (tgt : Expr) (g : TG) (tg : CT) (is : List Nat) : Prop where
  pg : PG X tgt g
  dg : DG K g tg is
/-- a def that stands under a name, and what it gives -/
structure DefAt (P : Program) (w : World) (K : PySem.W.Frag) (mg : Str → Option Value) (base : Heap) (CA : Err → Addr) (k : Nat) (x : Str) (φ : List PV → Option ER) : Prop where
  ex : ∃ (f : Addr) (fd : FuncData) (ps : List Str), FnOk P w K mg base (L2.CX P w) k f fd ps (spD K CA φ) ∧ mg x = some (.ref f) ∧ PySem.W.keepIn K (.ref f) = true ∧ Binds K fd ps []
/-- an own error's class, its number c -/
structure ErrAt (K : PySem.W.Frag) (mg : Str → Option Value) (CA : Err → Addr) (x : Str) (c : Err) : Prop where
  g : mg x = some (.ref (CA c))
  q : PySem.W.excIn K (CA c) [.type "ValueError", .type "Exception", .type "BaseException", .type "object"] "ValueError.__new__" = true
  k : PySem.W.keepIn K (.ref (CA c)) = true
  b : PySem.W.subIn K (.ref (CA c)) (.type "BaseException") = some true
  t : PySem.W.typeIn K (.ref (CA c)) = some (.type "type")
section
variable {X : Cx} {K : PySem.W.Frag} {CA : Err → Addr} {W : WX} {a b c e o : Expr} {ta tb tc te : TE} {fa fb fc f : CF} {pos : Pos}
/-! ### expressions -/
theorem px_var (i : Nat) {x : Str} (hN : X.N[i]? = some x := by rfl) (hv : Vis X.env.scope x := by first | exact Or.inl rfl | exact Or.inr (Or.inl rfl) | exact Or.inr (Or.inr rfl)) (hd : (x == ("__debug__" : Str)) = false := by decide)
    (hcd : (x == ("__classdict__" : Str)) = false := by decide) : PX X K CA W (.Name x pos) (tVar i) (cV i) := ⟨pe_var hN hv hd hcd, de_var⟩
theorem px_int {i : Int} {j : Nat} : PX X K CA W (.Constant (.int i) j pos) (tC (.int i)) (cK (.i i)) := ⟨pe_int, de_c fun _ => .i i⟩
theorem px_bl {x : Bool} {j : Nat} : PX X K CA W (.Constant (.bool x) j pos) (tC (.bl x)) (cK (.b x)) := ⟨pe_bl, de_c fun _ => .b x⟩
theorem px_non {j : Nat} : PX X K CA W (.Constant .none j pos) (tC .non) (cK .n) := ⟨pe_non, de_c fun _ => .n⟩
theorem px_str {x : Str} {j : Nat} (cs : List Nat) (h : x = ⟨cs.toArray⟩ := by decide +kernel) : PX X K CA W (.Constant (.str x) j pos) (tC (.str x)) (cK (.s cs)) := ⟨pe_str, de_c fun _ => by rw [h]; exact .s cs⟩
theorem px_globI {x : Str} {i : Int} {t : Tok} (hm : X.mg x = some (.int i t)) (hg : Gl X x := by rfl) (hd : (x == ("__debug__" : Str)) = false := by decide) : PX X K CA W (.Name x pos) (tC (.int i)) (cK (.i i)) :=
  ⟨pe_glob hg hm ⟨t, rfl⟩ hd, de_c fun _ => .i i⟩
theorem px_globS {x : Str} {y : Str} {t : Tok} (cs : List Nat) (hm : X.mg x = some (.str y t)) (h : y = ⟨cs.toArray⟩ := by decide +kernel) (hg : Gl X x := by rfl) (hd : (x == ("__debug__" : Str)) = false := by decide) : PX X K CA W (.Name x pos) (tC (.str y)) (cK (.s cs)) :=
  ⟨pe_glob hg hm ⟨t, rfl⟩ hd, de_c fun _ => by rw [h]; exact .s cs⟩
theorem px_add (ha : PX X K CA W a ta fa) (hb : PX X K CA W b tb fb) : PX X K CA W (.BinOp a .Add b pos) (tOp rAddA ta tb) (c2 gAdd fa fb) := ⟨pe_op or_addA ha.pe hb.pe, de_2 op_addA ha.de hb.de⟩
theorem px_sub (ha : PX X K CA W a ta fa) (hb : PX X K CA W b tb fb) : PX X K CA W (.BinOp a .Sub b pos) (tOp (rI0 fun i j => .int (i - j)) ta tb) (c2 gSub fa fb) := ⟨pe_op op_sub ha.pe hb.pe, de_2 (op_int2 fun _ _ _ => .i _) ha.de hb.de⟩
theorem px_mul (ha : PX X K CA W a ta fa) (hb : PX X K CA W b tb fb) : PX X K CA W (.BinOp a .Mult b pos) (tOp (rI CMul fun i j => .int (i * j)) ta tb) (c2 gMul fa fb) := ⟨pe_op op_mul ha.pe hb.pe, de_2 op_mulP ha.de hb.de⟩
theorem px_mod (ha : PX X K CA W a ta fa) (hb : PX X K CA W b tb fb) : PX X K CA W (.BinOp a .Mod b pos) (tOp (rI CPos fun i j => .int (i % j)) ta tb) (c2 gMod fa fb) := ⟨pe_op op_mod ha.pe hb.pe, de_2 (op_int2C fun _ _ _ => .i _) ha.de hb.de⟩
theorem px_div (ha : PX X K CA W a ta fa) (hb : PX X K CA W b tb fb) : PX X K CA W (.BinOp a .FloorDiv b pos) (tOp (rI CDiv fun i j => .int (i / j)) ta tb) (c2 gDiv fa fb) := ⟨pe_op op_fdiv ha.pe hb.pe, de_2 (op_int2C fun _ _ _ => .i _) ha.de hb.de⟩
theorem px_pow (ha : PX X K CA W a ta fa) (hb : PX X K CA W b tb fb) : PX X K CA W (.BinOp a .Pow b pos) (tOp (rI CPow fun i j => .int (i ^ j.toNat)) ta tb) (c2 gPow fa fb) := ⟨pe_op op_pow ha.pe hb.pe, de_2 (op_int2C fun _ _ _ => .i _) ha.de hb.de⟩
theorem px_neg (ha : PX X K CA W a ta fa) : PX X K CA W (.UnaryOp .USub a pos) (tUn (rU fun i => .int (-i)) ta) (c1 gNeg fa) := ⟨pe_un un_neg ha.pe, de_1 op_neg ha.de⟩
/-! comparisons, as values and as tests -/
theorem px_lt (ha : PX X K CA W a ta fa) (hb : PX X K CA W b tb fb) : PX X K CA W (.Compare a [.Lt] [b] pos) (tOp (rI0 fun i j => .bl (decide (i < j))) ta tb) (c2 gLt fa fb) := ⟨pe_cmpR op_lt ha.pe hb.pe (nomark _), de_2 (op_int2 fun _ _ _ => .b _) ha.de hb.de⟩
theorem px_le (ha : PX X K CA W a ta fa) (hb : PX X K CA W b tb fb) : PX X K CA W (.Compare a [.LtE] [b] pos) (tOp (rI0 fun i j => .bl (decide (i ≤ j))) ta tb) (c2 gLe fa fb) := ⟨pe_cmpR op_le ha.pe hb.pe (nomark _), de_2 (op_int2 fun _ _ _ => .b _) ha.de hb.de⟩
theorem px_gt (ha : PX X K CA W a ta fa) (hb : PX X K CA W b tb fb) : PX X K CA W (.Compare a [.Gt] [b] pos) (tOp (rI0 fun i j => .bl (decide (j < i))) ta tb) (c2 gGt fa fb) := ⟨pe_cmpR op_gt ha.pe hb.pe (nomark _), de_2 (op_int2 fun _ _ _ => .b _) ha.de hb.de⟩
theorem px_ge (ha : PX X K CA W a ta fa) (hb : PX X K CA W b tb fb) : PX X K CA W (.Compare a [.GtE] [b] pos) (tOp (rI0 fun i j => .bl (decide (j ≤ i))) ta tb) (c2 gGe fa fb) := ⟨pe_cmpR op_ge ha.pe hb.pe (nomark _), de_2 (op_int2 fun _ _ _ => .b _) ha.de hb.de⟩
theorem px_eq {A' : Around} {j : Nat} (hr : Room j A') (ha : PX X K CA W a ta fa) (hb : PX X K CA W b tb fb) (hA : A' = X.A := by rfl) (hK : X.K = K := by rfl) : PX X K CA W (.Compare a [.Eq] [b] pos) (tOp (rEqP K) ta tb) (c2 gEq fa fb) := by
  subst hK
  exact ⟨pe_cmpR (or_eqP (hA ▸ hr.units)) ha.pe hb.pe (nomark _), de_2 op_eqP ha.de hb.de⟩
theorem px_ne {A' : Around} {j : Nat} (hr : Room j A') (ha : PX X K CA W a ta fa) (hb : PX X K CA W b tb fb) (hA : A' = X.A := by rfl) (hK : X.K = K := by rfl) : PX X K CA W (.Compare a [.NotEq] [b] pos) (tOp (rNeP K) ta tb) (c2 gNe fa fb) := by
  subst hK
  exact ⟨pe_cmpR (or_neP (hA ▸ hr.units)) ha.pe hb.pe (nomark _), de_2 op_neP ha.de hb.de⟩
theorem px_isN (ha : PX X K CA W a ta fa) (hb : PX X K CA W b tb fb) : PX X K CA W (.Compare a [.Is] [b] pos) (tOp (fun x y H Q => y = .non ∧ Q (.bl (decide (x = .non))) H) ta tb) (c2 gIsN fa fb) := ⟨pe_cmpR op_isN ha.pe hb.pe (nomark _), de_2 op_isNP ha.de hb.de⟩
theorem px_noN (ha : PX X K CA W a ta fa) (hb : PX X K CA W b tb fb) : PX X K CA W (.Compare a [.IsNot] [b] pos) (tOp (fun x y H Q => y = .non ∧ Q (.bl (!decide (x = .non))) H) ta tb) (c2 gNoN fa fb) := ⟨pe_cmpR op_notN ha.pe hb.pe (nomark _), de_2 op_noNP ha.de hb.de⟩
theorem pt_lt (ha : PX X K CA W a ta fa) (hb : PX X K CA W b tb fb) : PTX X K CA W (.Compare a [.Lt] [b] pos) (tTest (tOp (rI0 fun i j => .bl (decide (i < j))) ta tb)) (c2 gLt fa fb) := ⟨pt_cmpR op_lt ha.pe hb.pe (nomark _), dt_test (px_lt (pos := pos) ha hb).de⟩
theorem pt_le (ha : PX X K CA W a ta fa) (hb : PX X K CA W b tb fb) : PTX X K CA W (.Compare a [.LtE] [b] pos) (tTest (tOp (rI0 fun i j => .bl (decide (i ≤ j))) ta tb)) (c2 gLe fa fb) := ⟨pt_cmpR op_le ha.pe hb.pe (nomark _), dt_test (px_le (pos := pos) ha hb).de⟩
theorem pt_gt (ha : PX X K CA W a ta fa) (hb : PX X K CA W b tb fb) : PTX X K CA W (.Compare a [.Gt] [b] pos) (tTest (tOp (rI0 fun i j => .bl (decide (j < i))) ta tb)) (c2 gGt fa fb) := ⟨pt_cmpR op_gt ha.pe hb.pe (nomark _), dt_test (px_gt (pos := pos) ha hb).de⟩
theorem pt_ge (ha : PX X K CA W a ta fa) (hb : PX X K CA W b tb fb) : PTX X K CA W (.Compare a [.GtE] [b] pos) (tTest (tOp (rI0 fun i j => .bl (decide (j ≤ i))) ta tb)) (c2 gGe fa fb) := ⟨pt_cmpR op_ge ha.pe hb.pe (nomark _), dt_test (px_ge (pos := pos) ha hb).de⟩
theorem pt_eq {A' : Around} {j : Nat} (hr : Room j A') (ha : PX X K CA W a ta fa) (hb : PX X K CA W b tb fb) (hA : A' = X.A := by rfl) (hK : X.K = K := by rfl) : PTX X K CA W (.Compare a [.Eq] [b] pos) (tTest (tOp (rEqP K) ta tb)) (c2 gEq fa fb) := by
  subst hK
  exact ⟨pt_cmpR (or_eqP (hA ▸ hr.units)) ha.pe hb.pe (nomark _), dt_test (px_eq (pos := pos) hr ha hb hA).de⟩
theorem pt_ne {A' : Around} {j : Nat} (hr : Room j A') (ha : PX X K CA W a ta fa) (hb : PX X K CA W b tb fb) (hA : A' = X.A := by rfl) (hK : X.K = K := by rfl) : PTX X K CA W (.Compare a [.NotEq] [b] pos) (tTest (tOp (rNeP K) ta tb)) (c2 gNe fa fb) := by
  subst hK
  exact ⟨pt_cmpR (or_neP (hA ▸ hr.units)) ha.pe hb.pe (nomark _), dt_test (px_ne (pos := pos) hr ha hb hA).de⟩
theorem pt_isN (ha : PX X K CA W a ta fa) (hb : PX X K CA W b tb fb) : PTX X K CA W (.Compare a [.Is] [b] pos) (tTest (tOp (fun x y H Q => y = .non ∧ Q (.bl (decide (x = .non))) H) ta tb)) (c2 gIsN fa fb) := ⟨pt_cmpR op_isN ha.pe hb.pe (nomark _), dt_test (px_isN (pos := pos) ha hb).de⟩
theorem pt_noN (ha : PX X K CA W a ta fa) (hb : PX X K CA W b tb fb) : PTX X K CA W (.Compare a [.IsNot] [b] pos) (tTest (tOp (fun x y H Q => y = .non ∧ Q (.bl (!decide (x = .non))) H) ta tb)) (c2 gNoN fa fb) := ⟨pt_cmpR op_notN ha.pe hb.pe (nomark _), dt_test (px_noN (pos := pos) ha hb).de⟩
/-- an operator of a chain -/
structure OpX (X : Cx) (K : PySem.W.Frag) (op : CmpOp) (r : R2) (g : PV → PV → Option ER) : Prop where
  o : OpR X (compareOp op) r
  d : Op2 K r g
theorem ox_lt : OpX X K .Lt (rI0 fun i j => .bl (decide (i < j))) gLt := ⟨op_lt, op_int2 fun _ _ _ => .b _⟩
theorem ox_le : OpX X K .LtE (rI0 fun i j => .bl (decide (i ≤ j))) gLe := ⟨op_le, op_int2 fun _ _ _ => .b _⟩
theorem ox_eq {A' : Around} {j : Nat} (hr : Room j A') (hA : A' = X.A := by rfl) (hK : X.K = K := by rfl) : OpX X K .Eq (rEqP K) gEq := by
  subst hK
  exact ⟨or_eqP (hA ▸ hr.units), op_eqP⟩
theorem px_chain {op op' : CmpOp} {r r' : R2} {g g' : PV → PV → Option ER} (h : OpX X K op r g) (h' : OpX X K op' r' g') (ha : PX X K CA W a ta fa) (hb : PX X K CA W b tb fb) (hc : PX X K CA W c tc fc)
    (hm : lastMarks [op, op'] [b, c] = false := by with_unfolding_all rfl) : PX X K CA W (.Compare a [op, op'] [b, c] pos) (tChain r r' ta tb tc) (cChain g g' fa fb fc) := ⟨pe_chain h.o h'.o ha.pe hb.pe hc.pe hm, de_chain h.d h'.d ha.de hb.de hc.de⟩
theorem pt_chainX {op op' : CmpOp} {r r' : R2} {g g' : PV → PV → Option ER} (h : OpX X K op r g) (h' : OpX X K op' r' g') (ha : PX X K CA W a ta fa) (hb : PX X K CA W b tb fb) (hc : PX X K CA W c tc fc)
    (hm : lastMarks [op, op'] [b, c] = false := by with_unfolding_all rfl) : PTX X K CA W (.Compare a [op, op'] [b, c] pos) (tTest (tChain r r' ta tb tc)) (cChain g g' fa fb fc) := ⟨pt_chain h.o h'.o ha.pe hb.pe hc.pe hm, dt_test (de_chain h.d h'.d ha.de hb.de hc.de)⟩
/-! tests -/
theorem pt_v (h : PX X K CA W e te f) (he : ∀ whole, isTrue e X.env whole = (do let v ← whole; standAt e.pos; holding [v] (truthy v)) := by intro _; rfl) : PTX X K CA W e (tB te) f := ⟨pt_val h.pe he, dt_B h.de⟩
variable {tt tu : TT} {rest : List Expr}
theorem pt_no (h : PTX X K CA W a tt fa) : PTX X K CA W (.UnaryOp .Not a pos) (tNot tt) (cNot fa) := ⟨pt_not h.pt, dt_not h.dt⟩
theorem pw_a1 (h : PTX X K CA W a tt fa) : PWX X K CA W (.BoolOp .And [a] pos) tt fa := ⟨pw_and1 h.pt, h.dt⟩
theorem pw_o1 (h : PTX X K CA W a tt fa) : PWX X K CA W (.BoolOp .Or [a] pos) tt fa := ⟨pw_or1 h.pt, h.dt⟩
theorem pw_a (h : PTX X K CA W a tt fa) (hr : PWX X K CA W (.BoolOp .And (b :: rest) pos) tu fb) : PWX X K CA W (.BoolOp .And (a :: b :: rest) pos) (tAnd tt tu) (cAnd fa fb) := ⟨pw_and h.pt hr.pw, dt_and h.dt hr.dt⟩
theorem pw_o (h : PTX X K CA W a tt fa) (hr : PWX X K CA W (.BoolOp .Or (b :: rest) pos) tu fb) : PWX X K CA W (.BoolOp .Or (a :: b :: rest) pos) (tOr tt tu) (cOr fa fb) := ⟨pw_or h.pt hr.pw, dt_or h.dt hr.dt⟩
theorem pt_w (h : PWX X K CA W e tt f) : PTX X K CA W e tt f := ⟨h.pw.pt, h.dt⟩
theorem px_no (h : PX X K CA W a ta fa) : PX X K CA W (.UnaryOp .Not a pos) (tNotV ta) (cNot fa) := ⟨pe_not h.pe, de_not h.de⟩
theorem px_one {op : BoolOp} (h : PX X K CA W a ta fa) : PX X K CA W (.BoolOp op [a] pos) ta fa := ⟨pe_one h.pe, h.de⟩
theorem px_a (h : PX X K CA W a ta fa) (hr : PX X K CA W (.BoolOp .And (b :: rest) pos) tb fb) : PX X K CA W (.BoolOp .And (a :: b :: rest) pos) (tAndV ta tb) (cAnd fa fb) := ⟨pe_and h.pe hr.pe, de_and h.de hr.de⟩
theorem px_o (h : PX X K CA W a ta fa) (hr : PX X K CA W (.BoolOp .Or (b :: rest) pos) tb fb) : PX X K CA W (.BoolOp .Or (a :: b :: rest) pos) (tOrV ta tb) (cOr fa fb) := ⟨pe_or h.pe hr.pe, de_or h.de hr.de⟩
/-! subscripts, slices, displays -/
theorem px_ix (ha : PX X K CA W a ta fa) (hb : PX X K CA W b tb fb) (hs : PlainIx b := by intro _ _; rfl) (hK : X.K = K := by rfl) : PX X K CA W (.Subscript a b pos) (tOp (rIx K) ta tb) (c2 gIdx fa fb) := by
  subst hK
  exact ⟨pe_ix ix_seq ha.pe hb.pe hs, de_2 op_idx ha.de hb.de⟩
theorem po_no : POX X K CA W none tNoPart none := ⟨po_none, do_none⟩
theorem po_yes (h : PX X K CA W e te f) : POX X K CA W (some e) (tPart te) (some f) := ⟨po_some h.pe, do_some h.de⟩
variable {lo hi : Option Expr} {tl th : TO} {pl ph : Option CF} {p2 : Pos}
theorem px_sl (h : PX X K CA W e te f) (h1 : POX X K CA W lo tl pl) (h2 : POX X K CA W hi th ph) (hK : X.K = K := by rfl) : PX X K CA W (.Subscript e (.Slice lo hi none p2) pos) (tSl (rSlA K) te tl th) (cSl f pl ph) := by
  subst hK
  exact ⟨pe_slice sl_any h.pe h1.po h2.po, de_sl h.de h1.od h2.od⟩
variable {es : List Expr} {t : TA} {fs : List CF}
theorem pa_n : PAX X K CA W [] tNil [] := ⟨pa_nil, da_nil⟩
theorem pa_c (h : PX X K CA W e te f) (hr : PAX X K CA W es t fs) (hs : starEach (e :: es) X.env = (false, eval e X.env) :: starEach es X.env := by rfl) : PAX X K CA W (e :: es) (tCons te t) (f :: fs) := ⟨pa_cons h.pe hr.pa hs, da_cons h.de hr.da⟩
theorem px_tup {x1 : Nat} (h : PAX X K CA W es t fs) : PX X K CA W (.Tuple es x1 pos) (tTup t) (cTup fs) := ⟨pe_tup h.pa, de_tup h.da⟩
theorem px_lst (h : PAX X K CA W es t fs) : PX X K CA W (.List es pos) (tLst t) (cLst fs) := ⟨pe_lst h.pa, de_lst h.da⟩
/-! built-ins -/
theorem pax1 (h : PX X K CA W e te f) (hs : starEach [e] X.env = (false, eval e X.env) :: starEach [] X.env := by rfl) : PA X [e] (tCons te tNil) := pa_cons h.pe pa_nil hs
theorem pax2 (h : PX X K CA W a ta fa) (h2 : PX X K CA W b tb fb) (hs : starEach [a, b] X.env = (false, eval a X.env) :: starEach [b] X.env := by rfl) (hs2 : starEach [b] X.env = (false, eval b X.env) :: starEach [] X.env := by rfl) : PA X [a, b] (tCons ta (tCons tb tNil)) := pa_cons h.pe (pa_cons h2.pe pa_nil hs2) hs
variable {p : Pos}
theorem px_len (hm : X.mg "len" = none) (h : PX X K CA W e te f) (hg : Gl X "len" := by rfl) (hs : starEach [e] X.env = (false, eval e X.env) :: starEach [] X.env := by rfl) (hK : X.K = K := by rfl) : PX X K CA W (.Call (.Name "len" p) [e] [] pos) (tCB (rLenA K) (tCons te tNil)) (c1 gLen f) := by
  subst hK
  exact ⟨pe_callB call_len hg hm (by decide +kernel) (pax1 h hs) (by decide) (by decide) hs rfl, de_B1 op_len h.de⟩
theorem px_ord (hm : X.mg "ord" = none) (h : PX X K CA W e te f) (hg : Gl X "ord" := by rfl) (hs : starEach [e] X.env = (false, eval e X.env) :: starEach [] X.env := by rfl) : PX X K CA W (.Call (.Name "ord" p) [e] [] pos) (tCB rOrd (tCons te tNil)) (c1 gOrd f) :=
  ⟨pe_callB call_ord hg hm (by decide +kernel) (pax1 h hs) (by decide) (by decide) hs rfl, de_B1 op_ord h.de⟩
theorem px_sum (hc : X.calm = true) (hm : X.mg "sum" = none) (h : PX X K CA W e te f) (hg : Gl X "sum" := by rfl) (hs : starEach [e] X.env = (false, eval e X.env) :: starEach [] X.env := by rfl) (hK : X.K = K := by rfl) : PX X K CA W (.Call (.Name "sum" p) [e] [] pos) (tCB (rSum K) (tCons te tNil)) (c1 gSum f) := by
  subst hK
  exact ⟨pe_callB (cr_sum hc) hg hm (by decide +kernel) (pax1 h hs) (by decide) (by decide) hs rfl, de_B1 op_sum h.de⟩
theorem px_all (hc : X.calm = true) (hm : X.mg "all" = none) (h : PX X K CA W e te f) (hg : Gl X "all" := by rfl) (hs : starEach [e] X.env = (false, eval e X.env) :: starEach [] X.env := by rfl) (hK : X.K = K := by rfl) : PX X K CA W (.Call (.Name "all" p) [e] [] pos) (tCB (rAll K) (tCons te tNil)) (c1 gAll f) := by
  subst hK
  exact ⟨pe_callB (cr_all hc) hg hm (by decide +kernel) (pax1 h hs) (by decide) (by decide) hs rfl, de_B1 op_all h.de⟩
theorem px_min (hc : X.calm = true) (hm : X.mg "min" = none) (h : PX X K CA W a ta fa) (h2 : PX X K CA W b tb fb) (hg : Gl X "min" := by rfl) (hs : starEach [a, b] X.env = (false, eval a X.env) :: starEach [b] X.env := by rfl) (hs2 : starEach [b] X.env = (false, eval b X.env) :: starEach [] X.env := by rfl) (hpl : (backTo pos (starEach [b] X.env)).any (·.1) = false := by rfl) :
    PX X K CA W (.Call (.Name "min" p) [a, b] [] pos) (tCB rMin2 (tCons ta (tCons tb tNil))) (c2 gMin2 fa fb) := ⟨pe_callB (call_min2 hc) hg hm (by decide +kernel) (pax2 h h2 hs hs2) (by decide) (by decide) hs hpl, de_B2 op_min2 h.de h2.de⟩
theorem px_max (hc : X.calm = true) (hm : X.mg "max" = none) (h : PX X K CA W a ta fa) (h2 : PX X K CA W b tb fb) (hg : Gl X "max" := by rfl) (hs : starEach [a, b] X.env = (false, eval a X.env) :: starEach [b] X.env := by rfl) (hs2 : starEach [b] X.env = (false, eval b X.env) :: starEach [] X.env := by rfl) (hpl : (backTo pos (starEach [b] X.env)).any (·.1) = false := by rfl) :
    PX X K CA W (.Call (.Name "max" p) [a, b] [] pos) (tCB rMax2 (tCons ta (tCons tb tNil))) (c2 gMax2 fa fb) := ⟨pe_callB (call_max2 hc) hg hm (by decide +kernel) (pax2 h h2 hs hs2) (by decide) (by decide) hs hpl, de_B2 op_max2 h.de h2.de⟩
theorem px_intc (hm : X.mg "int" = none) (h : PX X K CA W e te f) (hg : Gl X "int" := by rfl) (hs : starEach [e] X.env = (false, eval e X.env) :: starEach [] X.env := by rfl) : PX X K CA W (.Call (.Name "int" p) [e] [] pos) (tCB rInt1 (tCons te tNil)) (c1 gInt f) :=
  ⟨pe_callTy call_int1 hg hm (by decide +kernel) (pax1 h hs) (by decide) (by decide) hs rfl, de_B1 op_int1 h.de⟩
theorem px_list (hm : X.mg "list" = none) (h : PX X K CA W e te f) (hg : Gl X "list" := by rfl) (hs : starEach [e] X.env = (false, eval e X.env) :: starEach [] X.env := by rfl) (hK : X.K = K := by rfl) : PX X K CA W (.Call (.Name "list" p) [e] [] pos) (tCB (rListO K) (tCons te tNil)) (c1 gList f) := by
  subst hK
  exact ⟨pe_callTy call_list_of hg hm (by decide +kernel) (pax1 h hs) (by decide) (by decide) hs rfl, de_B1 op_list h.de⟩
theorem px_isi {T : Str} {n : String} {p3 : Pos} (hm : X.mg "isinstance" = none) (hmT : X.mg T = none) (h : PX X K CA W e te f) (hv : bootBuiltins T = some (.type n) := by decide +kernel) (hgT : Gl X T := by rfl) (hg : Gl X "isinstance" := by rfl) (hn : T ≠ "__name__" := by decide) (hdb : (T == ("__debug__" : Str)) = false := by decide)
    (hs : starEach [e, .Name T p3] X.env = (false, eval e X.env) :: starEach [.Name T p3] X.env := by rfl) (hK : X.K = K := by rfl) :
    PX X K CA W (.Call (.Name "isinstance" p) [e, .Name T p3] [] pos) (tCB (rIsi K) (tCons te (tCons (tC (.ty n)) tNil))) (c1 (gIs n) f) := by
  subst hK
  exact ⟨pe_callB call_isi hg hm (by decide +kernel) (pa_cons h.pe (pa_cons (pe_bltn (v := .ty n) hgT hmT hv rfl hn hdb) pa_nil rfl) hs) (by decide) (by decide) hs rfl, de_isi h.de⟩
/-! calls of defs -/
theorem px_call {k j : Nat} {x : Str} {φ : List PV → Option ER} (G : DefAt X.prog X.w K X.mg X.base CA k x φ) {A' : Around} (hr : Room j A') (hj : k ≤ j) (tk : Takes X W) (ha : PAX X K CA W (e :: es) t fs) (hA : A' = X.A := by rfl) (hg : Gl X x := by rfl) (hdb : (x == ("__debug__" : Str)) = false := by decide)
    (he : starEach (e :: es) X.env = (false, eval e X.env) :: starEach es X.env := by rfl) (hpl : (backTo pos (starEach es X.env)).any (·.1) = false := by rfl) (hK : X.K = K := by rfl) :
    PX X K CA W (.Call (.Name x p) (e :: es) [] pos) (tCallS (spD K CA φ) (WE W) t) (cCall φ fs) := by
  subst hK
  obtain ⟨fa, fd, ps, F, hm, hk, hb⟩ := G.ex
  subst hA
  exact ⟨pe_callS F (hr.mono hj) hg hm hk hb (fun σ => passAt tk σ) ha.pa hdb he hpl, de_call ha.da⟩
/-! what is walked; targets; comprehensions -/
variable {tg iter : Expr} {wi : TI} {it : CI}
theorem pix_l (h : PX X K CA W e te f) (hK : X.K = K := by rfl) : PIX X K CA W tg e (iList K te) (iL f) := by
  subst hK
  exact ⟨pi_list h.pe, di_list h.de⟩
theorem pix_t (h : PX X K CA W e te f) (hK : X.K = K := by rfl) : PIX X K CA W tg e (iTup K te) (iT f) := by
  subst hK
  exact ⟨pi_tup h.pe, di_tup h.de⟩
theorem pix_s (h : PX X K CA W e te f) : PIX X K CA W tg e (iStr te) (iS f) := ⟨pi_str h.pe, di_str h.de⟩
theorem pix_r1 (hm : X.mg "range" = none) (h : PX X K CA W e te f) (hg : Gl X "range" := by rfl) (hs : starEach [e] X.env = [(false, eval e X.env)] := by rfl) : PIX X K CA W tg (.Call (.Name "range" p) [e] [] pos) (iRng1 (tCons te tNil)) (iR1 f) := ⟨pi_range1 hg hm (pax1 h hs) hs, di_r1 h.de⟩
theorem pix_r2 (hm : X.mg "range" = none) (h : PX X K CA W a ta fa) (h2 : PX X K CA W b tb fb) (hg : Gl X "range" := by rfl) (hs : starEach [a, b] X.env = [(false, eval a X.env), (false, eval b X.env)] := by rfl) (hs2 : starEach [b] X.env = [(false, eval b X.env)] := by rfl) :
    PIX X K CA W tg (.Call (.Name "range" p) [a, b] [] pos) (iRng2 (tCons ta (tCons tb tNil))) (iR2 fa fb) := ⟨pi_range2 hg hm (pa_cons h.pe (pa_cons h2.pe pa_nil hs2) (by rw [hs, hs2])) hs hs2, di_r2 h.de h2.de⟩
theorem pgx_n (i : Nat) {x : Str} (hN : X.N.Nodup) (hi : X.N[i]? = some x := by rfl) (hx : Loc X.env.scope x := by first | exact Or.inl rfl | exact Or.inr rfl) (hf : X.fn x = true ∨ X.env.scope.names.lookup x = some .local := by first | exact .inl rfl | exact .inr rfl | assumption) : PGX X K (.Name x pos) (gName i) (tgN i) [i] := ⟨pg_name hN hi hx hf, dg_name⟩
theorem pgx_2 (i j : Nat) {x y : Str} {p1 p2 : Pos} {k : Nat} (hc : X.calm = true) (hN : X.N.Nodup) (hi : X.N[i]? = some x := by rfl) (hj : X.N[j]? = some y := by rfl) (hx : Loc X.env.scope x := by first | exact Or.inl rfl | exact Or.inr rfl) (hy : Loc X.env.scope y := by first | exact Or.inl rfl | exact Or.inr rfl)
    (hfx : X.fn x = true ∨ X.env.scope.names.lookup x = some .local := by first | exact .inl rfl | exact .inr rfl | assumption) (hfy : X.fn y = true ∨ X.env.scope.names.lookup y = some .local := by first | exact .inl rfl | exact .inr rfl | assumption) (hK : X.K = K := by rfl) :
    PGX X K (.Tuple [.Name x p1, .Name y p2] k pos) (gTup K 2 (gCons (gName i) (gCons (gName j) gNil))) (tg2 i j) [i, j] := by
  subst hK
  exact ⟨pg_tup hc (pgs_cons (pg_name hN hi hx hfx) (pgs_cons (pg_name hN hj hy hfy) pgs_nil rfl) rfl) rfl rfl, dg_two⟩
structure PTsX (X : Cx) (K : PySem.W.Frag) (CA : Err → Addr) (W : WX) (ifs : List Expr) (t : TT) (f : CF) : Prop where
  pt : PTs X ifs t
  dt : DT K CA W t f
theorem pts_n : PTsX X K CA W [] tYes cYes := ⟨pts_nil, dt_yes⟩
theorem pts_1 (h : PTX X K CA W c tt fc) : PTsX X K CA W [c] tt fc := ⟨pts_one h.pt, h.dt⟩
variable {elt : Expr} {ifs : List Expr} {scope : Scope} {g : TG} {tgf : CT} {is : List Nat}
theorem px_lc (own : List (Str × Nat)) {vs : List Nat} (hc : X.calm = true) (hN : X.N.Nodup) (hi : PIX X K CA W tg iter wi it) (ok : BlkOk X.N X.env.scope scope own) (hvs : own.map (·.2) = vs)
    (hg : ∀ (s : Shared) (H : Hp) (C : Addr) (cl : List (Str × Addr)) (fp : List Addr), PGX (X.blk s H scope (compEnvC scope cl C X.env) fp) K tg g tgf is) (ht : ∀ (s : Shared) (H : Hp) (C : Addr) (cl : List (Str × Addr)) (fp : List Addr), PTsX (X.blk s H scope (compEnvC scope cl C X.env) fp) K CA W0 ifs tt fa)
    (he : ∀ (s : Shared) (H : Hp) (C : Addr) (cl : List (Str × Addr)) (fp : List Addr), PX (X.blk s H scope (compEnvC scope cl C X.env) fp) K CA W0 elt te f) (hv : is.all (fun i => vs.contains i) = true := by decide) (hs : ∀ x, foldedSetIterable iter X.env x = pure x := by intro _; rfl) :
    PX X K CA W (.ListComp elt [⟨tg, iter, ifs, 0⟩] scope pos) (tLc wi g tt te vs) (cLc vs it tgf fa f) := by
  subst hvs
  refine ⟨pe_lc hc hN hi.pi ok (fun s H C cl fp => (hg s H C cl fp).pg) (fun s H C cl fp => (ht s H C cl fp).pt) (fun s H C cl fp => (he s H C cl fp).pe) hs, ?_⟩
  refine de_lc hi.di (hg X.s_0 X.H_0 0 [] []).dg (ht X.s_0 X.H_0 0 [] []).dt (he X.s_0 X.H_0 0 [] []).de fun i hi => ?_
  have := List.all_eq_true.mp hv i hi
  simpa using this
/-! ### statements -/
variable {st : Stmt} {sts : List Stmt} {tS tU : TS} {s u : CS} {A B : List Stmt}
theorem sx_nil : PSsX X K CA W [] tNext cNext := ⟨pss_nil, ds_next⟩
theorem sx_cons (h1 : PSX X K CA W st tS s) (h2 : PSsX X K CA W sts tU u) : PSsX X K CA W (st :: sts) (tSeq tS tU) (cSeq s u) := ⟨pss_cons h1.ps h2.ps, ds_seq h1.ds h2.ds⟩
theorem sx_one (h : PSX X K CA W st tS s) : PSsX X K CA W [st] tS s := ⟨pss_one h.ps, h.ds⟩
theorem sx_frz (i : Nat) (h : PSsX X K CA W sts tS s) : PSsX X K CA W sts tS (cFrz i s) := ⟨h.ps, ds_frz h.ds⟩
theorem sx_nv : PSsX X K CA W sts tNever cNever := ⟨pss_never, ds_never⟩
theorem s_nv : PSX X K CA W st tNever cNever := ⟨ps_never, ds_never⟩
theorem s_pass : PSX X K CA W (.Pass pos) tNext cNext := ⟨ps_pass, ds_next⟩
theorem s_brk : PSX X K CA W (.Break pos) tBreak cBrk := ⟨ps_break, ds_brk⟩
theorem s_cnt : PSX X K CA W (.Continue pos) tCont cCnt := ⟨ps_continue, ds_cnt⟩
theorem s_doc {x : Str} {j : Nat} {pos' : Pos} : PSX X K CA W (.Expr (.Constant (.str x) j pos) pos') tNext cNext := ⟨ps_doc, ds_next⟩
theorem s_set (i : Nat) {x : Str} {pos' : Pos} (hN : X.N.Nodup) (h : PX X K CA W e te f) (hi : X.N[i]? = some x := by rfl) (hx : Loc X.env.scope x := by first | exact Or.inl rfl | exact Or.inr rfl) (hs : swapsWith e (some (.Name x pos')) pos.line X.env = pure false := by rfl) (hf : X.fn x = true ∨ X.env.scope.names.lookup x = some .local := by first | exact .inl rfl | exact .inr rfl | assumption) :
    PSX X K CA W (.Assign [.Name x pos'] e pos) (tAsg te (gName i)) (cAsg i f) := ⟨ps_set hN hi hx h.pe hs hf, ds_asg h.de⟩
theorem s_setM (i : Nat) {x : Str} {pos' : Pos} (hN : X.N.Nodup) (h : PX X K CA W e te f) (hi : X.N[i]? = some x := by rfl) (hx : Loc X.env.scope x := by first | exact Or.inl rfl | exact Or.inr rfl) (hs : swapsWith e (some (.Name x pos')) pos.line X.env = pure false := by rfl) (hf : X.fn x = true ∨ X.env.scope.names.lookup x = some .local := by first | exact .inl rfl | exact .inr rfl | assumption) :
    PSX X K CA W (.Assign [.Name x pos'] e pos) (tAsg te (gName i)) (cAsgM i f) := ⟨ps_set hN hi hx h.pe hs hf, ds_asgM h.de⟩
/-- name = [.. for ..] on one line -/
theorem s_setLc (i : Nat) (own : List (Str × Nat)) {vs : List Nat} {y : Str} {py spos : Pos} (hc : X.calm = true) (hN : X.N.Nodup) (hi : PIX X K CA W tg iter wi it) (ok : BlkOk X.N X.env.scope scope own) (hvs : own.map (·.2) = vs)
    (hg : ∀ (s : Shared) (H : Hp) (C : Addr) (cl : List (Str × Addr)) (fp : List Addr), PGX (X.blk s H scope (compEnvC scope cl C X.env) fp) K tg g tgf is) (ht : ∀ (s : Shared) (H : Hp) (C : Addr) (cl : List (Str × Addr)) (fp : List Addr), PTsX (X.blk s H scope (compEnvC scope cl C X.env) fp) K CA W0 ifs tt fa)
    (he : ∀ (s : Shared) (H : Hp) (C : Addr) (cl : List (Str × Addr)) (fp : List Addr), PX (X.blk s H scope (compEnvC scope cl C X.env) fp) K CA W0 elt te f)
    (hy : X.N[i]? = some y := by rfl) (hyl : X.env.scope.names.lookup y = some .local := by rfl) (hsw : swapsWith (.ListComp elt [⟨tg, iter, ifs, 0⟩] scope pos) (some (.Name y py)) spos.line X.env = pure true := by exact sw_true rfl rfl rfl (by decide +kernel))
    (hv : is.all (fun i => vs.contains i) = true := by decide) (hs : ∀ x, foldedSetIterable iter X.env x = pure x := by intro _; rfl) :
    PSX X K CA W (.Assign [.Name y py] (.ListComp elt [⟨tg, iter, ifs, 0⟩] scope pos) spos) (tAsg (tLc wi g tt te vs) (gName i)) (cAsg i (cLc vs it tgf fa f)) := by
  subst hvs
  refine ⟨ps_setLc hc hN hy hyl hsw hi.pi ok (fun s H C cl fp => (hg s H C cl fp).pg) (fun s H C cl fp => (ht s H C cl fp).pt) (fun s H C cl fp => (he s H C cl fp).pe) hs, ds_asg ?_⟩
  refine de_lc hi.di (hg X.s_0 X.H_0 0 [] []).dg (ht X.s_0 X.H_0 0 [] []).dt (he X.s_0 X.H_0 0 [] []).de fun i hi => ?_
  have := List.all_eq_true.mp hv i hi
  simpa using this
theorem s_exp (h : PX X K CA W e te f) (hs : swapsWith e none pos.line X.env = pure false := by rfl) : PSX X K CA W (.Expr e pos) (tDrop te) (cDrop f) := ⟨ps_expr h.pe hs, ds_drop h.de⟩
theorem s_ret (h : PX X K CA W e te f) : PSX X K CA W (.Return (some e) pos) (tRet te) (cRet f) := ⟨ps_ret h.pe, ds_ret h.de⟩
theorem s_retV (i : Nat) {x : Str} {pos' : Pos} (h : PX X K CA W (.Name x pos') (tVar i) (cV i)) : PSX X K CA W (.Return (some (.Name x pos')) pos) (tRet (tVar i)) (cRetV i) := ⟨ps_ret h.pe, ds_retV⟩
theorem s_retN : PSX X K CA W (.Return none pos) tRetN cRetN := ⟨ps_retN, ds_retN⟩
theorem s_if (hc : PTX X K CA W c tt fc) (h1 : PSsX X K CA W A tS s) (h2 : PSsX X K CA W B tU u) : PSX X K CA W (.If c A B pos) (tIfS tt tS tU) (cIf fc s u) := ⟨ps_if hc.pt h1.ps h2.ps, ds_if hc.dt h1.ds h2.ds⟩
theorem s_for (hp : PassesOwn (model X.prog X.w) X.A X.env X.xe) (hc : X.calm = true) (hi : PIX X K CA W tg iter wi it) (hg : PGX X K tg g tgf is) (hb : PSsX X K CA W B tS s) (hs : ∀ x, foldedSetIterable iter X.env x = pure x := by intro _; rfl) :
    PSX X K CA W (.For tg iter B [] pos) (tFor wi g tS) (cFor it tgf s) := ⟨ps_for hp hc hi.pi hg.pg hb.ps hs, ds_for hi.di hg.dg hb.ds⟩
theorem s_wh (n : Nat) (hp : PassesOwn (model X.prog X.w) X.A X.env X.xe) (hc : PTX X K CA W c tt fc) (hb : PSsX X K CA W B tS s) : PSX X K CA W (.While c B [] pos) (tWhile tt tS) (cWh n fc s) := ⟨ps_while hp hc.pt hb.ps, ds_wh hc.dt hb.ds⟩
theorem s_raise {x m : Str} {cn : Err} {j : Nat} {p p2 pos2 : Pos} (hc : X.calm = true) (tk : Takes X W) (G : ErrAt K X.mg CA x cn) (hg : Gl X x := by rfl) (hdb : (x == ("__debug__" : Str)) = false := by decide) (hK : X.K = K := by rfl) :
    PSX X K CA W (.Raise (some (.Call (.Name x p) [.Constant (.str m) j p2] [] pos)) none pos2) (fun _ σ H => (fun (_ : L2.St) (H : Hp) (Q : XK) => Q (.ref (CA cn)) none H) σ H fun cls d H' => W cls d σ H') (cRaise cn) := by
  subst hK
  exact ⟨ps_raise hc tk (pmk_own PySem.F.excBase_ValueError G.q G.g G.k (raises_own G.b G.t) hg hdb), ds_raise⟩
/-! a slot's list -/
variable {apos cpos : Pos}
theorem s_app (i : Nat) (h0 : PX X K CA W o (tVar i) (cV i)) (h : PX X K CA W e te f) (hbase : attributeBase o "append" X.env (eval o X.env) = eval o X.env := by rfl)
    (hfew : ((backTo cpos (starEach [e] X.env)).all (fun x => !x.1) && (backToKw cpos (keywordEach [] X.env)).all (fun x => x.1.isSome)
      && decide (([e] : List Expr).length + ([] : List Keyword).length + (if ([] : List Keyword).isEmpty then 0 else 1) < 30)) = true := by rfl)
    (hline : (apos.endLine == cpos.line) = true := by rfl) (hs : starEach [e] X.env = (false, eval e X.env) :: starEach [] X.env := by rfl) (hsw : swapsWith (.Call (.Attribute o "append" apos) [e] [] cpos) none pos.line X.env = pure false := by rfl) (hK : X.K = K := by rfl) :
    PSX X K CA W (.Expr (.Call (.Attribute o "append" apos) [e] [] cpos) pos) (tDrop (tBM K "list" rAppend (tVar i) (tCons te tNil))) (cApp i f) := by
  subst hK
  exact ⟨ps_expr (pe_bm PySem.F.plainAttrs_list PySem.F.slot_list_append PySem.F.type_list_append mt_append h0.pe (pax1 h hs) hbase hfew hline hs rfl) hsw, ds_app h.de⟩
theorem s_ext (i : Nat) (h0 : PX X K CA W o (tVar i) (cV i)) (h : PX X K CA W e te f) (hbase : attributeBase o "extend" X.env (eval o X.env) = eval o X.env := by rfl)
    (hfew : ((backTo cpos (starEach [e] X.env)).all (fun x => !x.1) && (backToKw cpos (keywordEach [] X.env)).all (fun x => x.1.isSome)
      && decide (([e] : List Expr).length + ([] : List Keyword).length + (if ([] : List Keyword).isEmpty then 0 else 1) < 30)) = true := by rfl)
    (hline : (apos.endLine == cpos.line) = true := by rfl) (hs : starEach [e] X.env = (false, eval e X.env) :: starEach [] X.env := by rfl) (hsw : swapsWith (.Call (.Attribute o "extend" apos) [e] [] cpos) none pos.line X.env = pure false := by rfl) (hK : X.K = K := by rfl) :
    PSX X K CA W (.Expr (.Call (.Attribute o "extend" apos) [e] [] cpos) pos) (tDrop (tBM K "list" rExtend (tVar i) (tCons te tNil))) (cExt i f) := by
  subst hK
  exact ⟨ps_expr (pe_bm PySem.F.plainAttrs_list PySem.F.slot_list_extend PySem.F.type_list_extend mt_extend h0.pe (pax1 h hs) hbase hfew hline hs rfl) hsw, ds_ext h.de⟩
theorem s_rev (i : Nat) (h0 : PX X K CA W o (tVar i) (cV i)) (hbase : attributeBase o "reverse" X.env (eval o X.env) = eval o X.env := by rfl) (hline : (apos.endLine == cpos.line) = true := by rfl) (hsw : swapsWith (.Call (.Attribute o "reverse" apos) [] [] cpos) none pos.line X.env = pure false := by rfl) (hK : X.K = K := by rfl) :
    PSX X K CA W (.Expr (.Call (.Attribute o "reverse" apos) [] [] cpos) pos) (tDrop (tBM0 K "list" rReverse (tVar i))) (cRev i) := by
  subst hK
  exact ⟨ps_expr (pe_bm0 PySem.F.plainAttrs_list PySem.F.slot_list_reverse PySem.F.type_list_reverse mt_reverse h0.pe hbase hline) hsw, ds_rev⟩
theorem s_ins (i : Nat) (h0 : PX X K CA W o (tVar i) (cV i)) (hk : PX X K CA W a ta fa) (h : PX X K CA W e te f) (hbase : attributeBase o "insert" X.env (eval o X.env) = eval o X.env := by rfl)
    (hfew : ((backTo cpos (starEach [a, e] X.env)).all (fun x => !x.1) && (backToKw cpos (keywordEach [] X.env)).all (fun x => x.1.isSome)
      && decide (([a, e] : List Expr).length + ([] : List Keyword).length + (if ([] : List Keyword).isEmpty then 0 else 1) < 30)) = true := by rfl)
    (hline : (apos.endLine == cpos.line) = true := by rfl) (hs : starEach [a, e] X.env = (false, eval a X.env) :: starEach [e] X.env := by rfl) (hs2 : starEach [e] X.env = (false, eval e X.env) :: starEach [] X.env := by rfl) (hpl : (backTo cpos (starEach [e] X.env)).any (·.1) = false := by rfl)
    (hsw : swapsWith (.Call (.Attribute o "insert" apos) [a, e] [] cpos) none pos.line X.env = pure false := by rfl) (hK : X.K = K := by rfl) :
    PSX X K CA W (.Expr (.Call (.Attribute o "insert" apos) [a, e] [] cpos) pos) (tDrop (tBM K "list" rIns (tVar i) (tCons ta (tCons te tNil)))) (cIns i fa f) := by
  subst hK
  exact ⟨ps_expr (pe_bm PySem.F.plainAttrs_list PySem.F.slot_list_insert PySem.F.type_list_insert mt_insert h0.pe (pax2 hk h hs hs2) hbase hfew hline hs hpl) hsw, ds_ins hk.de h.de⟩
end
/-! ### a def by its body -/
section
variable {P : Program} {w : World} {K : PySem.W.Frag} {mg : Str → Option Value} {base : Heap} {CA : Err → Addr}
/-- what stands of a def behind the top -/
structure FunAt (K : PySem.W.Frag) (mg : Str → Option Value) (x : Str) (st : Stmt) (ps : List Str) : Prop where
  ex : ∃ (f : Addr) (fd : FuncData), Fun K x x st f fd ∧ mg x = some (.ref f) ∧ Binds K fd ps []
/-- a def's body, and what it gives -/
def Body (P : Program) (w : World) (K : PySem.W.Frag) (mg : Str → Option Value) (base : Heap) (CA : Err → Addr) (k : Nat) (x : Str) (st : Stmt) (N : List Str) (s : CS) : Prop :=
  ∀ (X : Cx) (hX : ∃ (f : Addr) (cdv : Value) (A : Around) (outer : List Env) (s0 : Shared) (H : Hp) (E : XK), X = cxOf (L2.CX P w) P w K mg base N x (defScope st) f cdv A outer s0 H E), Room k X.A → ∀ E : XK, Takes X (fun cls d _ H => E cls d H) →
      PassesOwn (model X.prog X.w) X.A X.env X.xe → ∃ t, PSsX X K CA (fun cls d _ H => E cls d H) (defBody st) t s
theorem Body.fn {x : Str} {st : Stmt} {N ps : List Str} {k : Nat} {s : CS} {f : Addr} {fd : FuncData} (B : Body P w K mg base CA k x st N s) (F : Fun K x x st f fd) (S : FnScope N ps (defScope st)) :
    FnOk P w K mg base (L2.CX P w) (k + 1) f fd ps (spD K CA (fnD ps.length N.length s)) := okD F S fun cdv A outer s0 H E hr => by
  obtain ⟨t, h⟩ := B _ ⟨f, cdv, A, outer, s0, H, E, rfl⟩ hr E (takes_of rfl rfl rfl rfl) (passes_of rfl)
  exact ⟨t, h.ps, h.ds⟩
theorem defAt {x : Str} {st : Stmt} {N ps : List Str} {k : Nat} {s : CS} (T : FunAt K mg x st ps) (S : FnScope N ps (defScope st)) (B : Body P w K mg base CA k x st N s) :
    DefAt P w K mg base CA (k + 1) x (fnD ps.length N.length s) := by
  obtain ⟨f, fd, F, hm, hb⟩ := T.ex
  exact ⟨⟨f, fd, ps, B.fn F S, hm, F.kp, hb⟩⟩
end
end DD
/-! the end: what the top has left, and the law -/
namespace DD
open PySem PySem.Spec L2
theorem funAt_mk {K : PySem.W.Frag} {h : Heap} {mg : Str → Option Value} (X : K.In h) (G : h.Ns mainGlobals mg) {x : Str} {st : Stmt} {ps : List Str} {f : Addr} {oc : Value} {od an : Option Addr} {osl : Array (Option Value)} {kV doc pm cdv ct : Value}
    (hb : ∀ (kV doc pm : Value) (an : Option Addr) (cdv ct : Value) (us : List Value), us.length = ps.length → bindArgs (PySem.W.fnOf x x (defArgs st) (defBody st) (defScope st) .none kV doc pm an cdv ct) ⟨us, []⟩ = pure (ps.zip us))
    (a : PySem.W.nsIn K mainGlobals x = some (some (.ref f))) (l : K.lookup f = some ⟨oc, od, .func (PySem.W.fnOf x x (defArgs st) (defBody st) (defScope st) .none kV doc pm an cdv ct), osl⟩) (c : PySem.W.codeIn K cdv x = true) (k : PySem.W.keepIn K (.ref f) = true) :
    FunAt K mg x st ps := ⟨f, _, fun_mk l c k, PySem.W.mg_of X G a, (fun_mk l c k).binds hb⟩
theorem errAt_mk {K : PySem.W.Frag} {h : Heap} {mg : Str → Option Value} (X : K.In h) (G : h.Ns mainGlobals mg) {x : Str} {C : Addr} (a : PySem.W.nsIn K mainGlobals x = some (some (.ref C)))
    (q : PySem.W.excIn K C [.type "ValueError", .type "Exception", .type "BaseException", .type "object"] "ValueError.__new__" = true) (k : PySem.W.keepIn K (.ref C) = true) (b : PySem.W.subIn K (.ref C) (.type "BaseException") = some true) (t : PySem.W.typeIn K (.ref C) = some (.type "type")) :
    ∃ C : Addr, ∀ CA : Err → Addr, ∀ c : Err, CA c = C → ErrAt K mg CA x c := ⟨C, fun CA c e => by subst e; exact ⟨PySem.W.mg_of X G a, q, k, b, t⟩⟩
theorem noneAt {K : PySem.W.Frag} {h : Heap} {mg : Str → Option Value} (X : K.In h) (G : h.Ns mainGlobals mg) (x : Str) (a : PySem.W.nsIn K mainGlobals x = some none) : mg x = none := PySem.W.mg_none_of X G a
theorem intAt {K : PySem.W.Frag} {h : Heap} {mg : Str → Option Value} (X : K.In h) (G : h.Ns mainGlobals mg) (x : Str) {i : Int} {t : Tok} (a : PySem.W.nsIn K mainGlobals x = some (some (.int i t))) : ∃ t, mg x = some (.int i t) := ⟨t, PySem.W.mg_of X G a⟩
theorem strAt {K : PySem.W.Frag} {h : Heap} {mg : Str → Option Value} (X : K.In h) (G : h.Ns mainGlobals mg) (x : Str) {i : Str} {t : Tok} (a : PySem.W.nsIn K mainGlobals x = some (some (.str i t))) : ∃ t, mg x = some (.str i t) := ⟨t, PySem.W.mg_of X G a⟩
/-- law's promise: a list of at most 63 ints is handed in, True comes out -/
def spLaw (K : PySem.W.Frag) : Sp := fun vs H Q _ => ∃ (a : Addr) (ns : List Int), vs = [.ref a] ∧ SqL K H a (ns.map V.int) ∧ ns.length ≤ 63 ∧ ∀ H', Q (.bl true) H'
theorem law_end {l : PySem.W.OpenLaw} {q : Program} {loose : List Str} {XP : (Str → Option Value) → Heap → Prop} {YP : World → Heap → Prop} {d : DefRec} {K : Params → PySem.W.Frag} {st : Stmt} {N : List Str} {k : Nat} {s : CS} {x : Str}
    (hn : l.most = some 63) (hdf : d.params.defaults = []) (hr : Room (k + 1) callerA) (hY : ∀ (w : World) (h : Heap), YP w h → (K w.params).In h) (S : FnScope N [x] (defScope st))
    (hlaw : ∀ ns : List Int, ns.length ≤ 63 → fnD 1 N.length s [.z ns] = some (.d (.b true)))
    (F : ∀ (w : World) (mg : Str → Option Value) (fa : Addr) (h : Heap), (K w.params).In h → h.Ns mainGlobals mg → mg d.name = some (.ref fa) →
      ∃ (CA : Err → Addr) (fd : FuncData), Fun (K w.params) "law" "law" st fa fd ∧ (∀ (s : Shared) (u : Value), BindsTo s fd ⟨[u], []⟩ [(x, u)]) ∧
        ∀ base : Heap, (K w.params).In base → base.Ns mainGlobals mg → Body l.prog w (K w.params) mg base CA k "law" st N s) :
    PySem.W.WalkO q loose XP YP l.row.toRowW d [] (fun f vs => PySem.call f vs) := by
  refine L2.walk_of (n := 63) (k := k + 1) (x := x) (CX := fun w => L2.CX l.prog w) (sp := fun w => spLaw (K w.params)) hn (by decide) hdf hr hY (fun w mg fa h KX G hmg => ?_)
    (fun w H a ns hl _ hS => ⟨a, ns, rfl, hS, hl, fun _ => rfl⟩) fun w H s e s' z => ?_
  · obtain ⟨CA, fd, hF, hb, hB⟩ := F w mg fa h KX G hmg
    refine ⟨fd, hb, fun base X1 G1 => ((hB base X1 G1).fn hF S).imp fun vs H Q E hh => ?_⟩
    obtain ⟨a, ns, rfl, hS, hl, k⟩ := hh
    refine ⟨H, [.z ns], .d (.b true), Same.refl H, .cons (.z ns hS) .nil, hlaw ns hl, fun v F' H' g ok => ?_, fun c e => by cases e⟩
    rw [ok.va.b]
    exact k H'
  · obtain ⟨_, _, _, _, _, _, _, _, _, _, _, _, z⟩ := z
    exact z
end DD
/-! how what a def gives is reckoned: rows for simp -/
namespace DD
open PySem PySem.Spec L2
section
variable {f g h : CF} {s t : CS} {ρ ρ' : Sl} {c : Err} {x y : PV} {xs ys : List PV} {r : ER} {i j : Nat} {k : Bool}
/-! ### statements -/
def sq (o : Option Fl) (g : CS) : Option Fl := match o with
  | some (.nx ρ) => g ρ
  | o => o
@[simp] theorem sq_nx : sq (some (.nx ρ)) s = s ρ := rfl
@[simp] theorem sq_rt : sq (some (.rt r)) s = some (.rt r) := rfl
@[simp] theorem sq_bk : sq (some (.bk ρ)) s = some (.bk ρ) := rfl
@[simp] theorem sq_ct : sq (some (.ct ρ)) s = some (.ct ρ) := rfl
@[simp] theorem sq_ex : sq (some (.ex c)) s = some (.ex c) := rfl
@[simp] theorem sq_no : sq none s = none := rfl
@[simp] theorem cSeq_ap : cSeq s t ρ = sq (s ρ) t := rfl
@[simp] theorem cNext_ap : cNext ρ = some (.nx ρ) := rfl
@[simp] theorem cNever_ap : cNever ρ = none := rfl
@[simp] theorem cBrk_ap : cBrk ρ = some (.bk ρ) := rfl
@[simp] theorem cCnt_ap : cCnt ρ = some (.ct ρ) := rfl
@[simp] theorem cRaise_ap : cRaise c ρ = some (.ex c) := rfl
@[simp] theorem cRetN_ap : cRetN ρ = some (.rt (.d .n)) := rfl
section
variable {q : PV → Option Fl}
@[simp] theorem lS_d : lS q (some (.d x)) = q x := rfl
@[simp] theorem lS_f : lS q (some (.f xs)) = q (.l xs) := rfl
@[simp] theorem lS_e : lS q (some (.e c)) = some (.ex c) := rfl
@[simp] theorem lS_m : lS q (some (.m xs)) = none := rfl
@[simp] theorem lS_n : lS q none = none := rfl
end
@[simp] theorem cAsg_ap : cAsg i f ρ = lS (fun x => some (.nx (ρ.set i (.d x)))) (f ρ) := rfl
def asM (i : Nat) (ρ : Sl) : Option ER → Option Fl
  | some (.f xs) => some (.nx (ρ.set i (.m xs)))
  | some (.e c) => some (.ex c)
  | _ => none
@[simp] theorem asM_f : asM i ρ (some (.f xs)) = some (.nx (ρ.set i (.m xs))) := rfl
@[simp] theorem asM_e : asM i ρ (some (.e c)) = some (.ex c) := rfl
@[simp] theorem cAsgM_ap : cAsgM i f ρ = asM i ρ (f ρ) := rfl
def dr (ρ : Sl) : Option ER → Option Fl
  | some (.e c) => some (.ex c)
  | some _ => some (.nx ρ)
  | none => none
@[simp] theorem dr_d : dr ρ (some (.d x)) = some (.nx ρ) := rfl
@[simp] theorem dr_f : dr ρ (some (.f xs)) = some (.nx ρ) := rfl
@[simp] theorem dr_e : dr ρ (some (.e c)) = some (.ex c) := rfl
@[simp] theorem dr_n : dr ρ none = none := rfl
@[simp] theorem cDrop_ap : cDrop f ρ = dr ρ (f ρ) := rfl
def rtn : Option ER → Option Fl
  | some (.d x) => some (.rt (.d x))
  | some (.f xs) => some (.rt (.f xs))
  | some (.e c) => some (.ex c)
  | _ => none
@[simp] theorem rtn_d : rtn (some (.d x)) = some (.rt (.d x)) := rfl
@[simp] theorem rtn_f : rtn (some (.f xs)) = some (.rt (.f xs)) := rfl
@[simp] theorem rtn_e : rtn (some (.e c)) = some (.ex c) := rfl
@[simp] theorem rtn_n : rtn none = none := rfl
@[simp] theorem cRet_ap : cRet f ρ = rtn (f ρ) := rfl
def rtV : Option Sl1 → Option Fl
  | some (.d x) => some (.rt (.d x))
  | some (.m xs) => some (.rt (.f xs))
  | _ => none
@[simp] theorem rtV_d : rtV (some (.d x)) = some (.rt (.d x)) := rfl
@[simp] theorem rtV_m : rtV (some (.m xs)) = some (.rt (.f xs)) := rfl
@[simp] theorem cRetV_ap : cRetV i ρ = rtV ρ[i]? := rfl
/-- a test, then one of two -/
def br (o : Option ER) (s t : CS) (ρ : Sl) : Option Fl := match o with
  | some (.d (.b true)) => s ρ
  | some (.d (.b false)) => t ρ
  | some (.e c) => some (.ex c)
  | _ => none
@[simp] theorem br_t : br (some (.d (.b true))) s t ρ = s ρ := rfl
@[simp] theorem br_f : br (some (.d (.b false))) s t ρ = t ρ := rfl
@[simp] theorem br_e : br (some (.e c)) s t ρ = some (.ex c) := rfl
@[simp] theorem br_n : br none s t ρ = none := rfl
@[simp] theorem cIf_ap : cIf f s t ρ = br (f ρ) s t ρ := rfl
theorem br_b : br (some (.d (.b k))) s t ρ = if k = true then s ρ else t ρ := by cases k <;> rfl
/-! a slot's list -/
@[simp] theorem cApp_ap : cApp i f ρ = match ρ[i]? with
  | some (.m xs) => lS (fun y => if xs.length < big then some (.nx (ρ.set i (.m (xs ++ [y])))) else none) (f ρ)
  | _ => none := rfl
@[simp] theorem cExt_ap : cExt i f ρ = match ρ[i]? with
  | some (.m xs) => lS (fun y => match y with | .l ys => if xs.length + ys.length ≤ big then some (.nx (ρ.set i (.m (xs ++ ys)))) else none | _ => none) (f ρ)
  | _ => none := rfl
@[simp] theorem cIns_ap : cIns i g f ρ = match ρ[i]? with
  | some (.m xs) => (match g ρ with
    | some (.d (.i k)) => lS (fun y => if xs.length < big ∧ 0 ≤ k ∧ k.natAbs < lim then some (.nx (ρ.set i (.m (xs.take k.toNat ++ [y] ++ xs.drop k.toNat)))) else none) (f ρ)
    | some (.e c) => some (.ex c)
    | _ => none)
  | _ => none := rfl
@[simp] theorem cRev_ap : cRev i ρ = match ρ[i]? with
  | some (.m xs) => some (.nx (ρ.set i (.m xs.reverse)))
  | _ => none := rfl
def fz (i : Nat) (s : CS) (ρ : Sl) : Option Sl1 → Option Fl
  | some (.m xs) => s (ρ.set i (.d (.l xs)))
  | some (.d _) => s ρ
  | _ => none
@[simp] theorem fz_m : fz i s ρ (some (.m xs)) = s (ρ.set i (.d (.l xs))) := rfl
@[simp] theorem fz_d : fz i s ρ (some (.d x)) = s ρ := rfl
@[simp] theorem cFrz_ap : cFrz i s ρ = fz i s ρ ρ[i]? := rfl
/-! loops -/
def fr (tg : CT) (b : CS) (ρ : Sl) : Option ER → Option Fl
  | some (.f xs) => forGo tg b xs ρ
  | some (.e c) => some (.ex c)
  | _ => none
@[simp] theorem fr_f {tg : CT} : fr tg s ρ (some (.f xs)) = forGo tg s xs ρ := rfl
@[simp] theorem cFor_ap {it : CI} {tg : CT} : cFor it tg s ρ = fr tg s ρ (it (fun xs => some (.f xs)) ρ) := rfl
/-- how a turn ends, and the turns behind it -/
def tn (o : Option Fl) (k : Sl → Option Fl) : Option Fl := match o with
  | some (.nx ρ) => k ρ
  | some (.ct ρ) => k ρ
  | some (.bk ρ) => some (.nx ρ)
  | o => o
section
variable {k : Sl → Option Fl}
@[simp] theorem tn_nx : tn (some (.nx ρ)) k = k ρ := rfl
@[simp] theorem tn_ct : tn (some (.ct ρ)) k = k ρ := rfl
@[simp] theorem tn_bk : tn (some (.bk ρ)) k = some (.nx ρ) := rfl
@[simp] theorem tn_rt : tn (some (.rt r)) k = some (.rt r) := rfl
@[simp] theorem tn_ex : tn (some (.ex c)) k = some (.ex c) := rfl
@[simp] theorem tn_no : tn none k = none := rfl
end
@[simp] theorem forGo_nil {tg : CT} : forGo tg s [] ρ = some (.nx ρ) := rfl
theorem forGo_cons {tg : CT} : forGo tg s (x :: xs) ρ = match tg x ρ with
  | none => none
  | some ρ' => tn (s ρ') (forGo tg s xs) := by
  unfold forGo
  cases tg x ρ with
  | none => rfl
  | some ρ' =>
    dsimp only
    cases s ρ' with
    | none => rfl
    | some o => cases o <;> first | rfl | (dsimp only [tn]; cases xs <;> rfl)
@[simp] theorem tgN_ap : tgN i x ρ = some (ρ.set i (.d x)) := rfl
@[simp] theorem tg2_ap : tg2 i j (.t [x, y]) ρ = some ((ρ.set i (.d x)).set j (.d y)) := rfl
@[simp] theorem cWh_ap {n : Nat} : cWh n f s ρ = whGo f s n ρ := rfl
def wh (o : Option ER) (s : CS) (k : Sl → Option Fl) (ρ : Sl) : Option Fl := match o with
  | some (.d (.b false)) => some (.nx ρ)
  | some (.d (.b true)) => tn (s ρ) k
  | some (.e c) => some (.ex c)
  | _ => none
section
variable {k : Sl → Option Fl}
@[simp] theorem wh_t : wh (some (.d (.b true))) s k ρ = tn (s ρ) k := rfl
@[simp] theorem wh_f : wh (some (.d (.b false))) s k ρ = some (.nx ρ) := rfl
end
theorem whGo_succ {n : Nat} : whGo f s (n + 1) ρ = wh (f ρ) s (whGo f s n) ρ := by
  conv => lhs; unfold whGo
  unfold wh
  cases f ρ with
  | none => rfl
  | some r =>
    cases r with
    | d x =>
      cases x with
      | b k =>
        cases k with
        | false => rfl
        | true =>
          dsimp only
          cases s ρ with
          | none => rfl
          | some o => cases o <;> rfl
      | _ => rfl
    | _ => rfl

/-! ### expressions -/
@[simp] theorem cV_ap : cV i ρ = match ρ[i]? with
  | some (.d x) => some (.d x)
  | some (.m xs) => some (.m xs)
  | _ => none := rfl
@[simp] theorem cK_ap : cK x ρ = some (.d x) := rfl
@[simp] theorem c2_ap {q : PV → PV → Option ER} : c2 q f g ρ = e1 (fun x => e1 (q x) (g ρ)) (f ρ) := rfl
@[simp] theorem c1_ap {q : PV → Option ER} : c1 q f ρ = e1 q (f ρ) := rfl
def nt : Option ER → Option ER
  | some (.d (.b k)) => some (.d (.b !k))
  | some (.e c) => some (.e c)
  | _ => none
@[simp] theorem nt_b : nt (some (.d (.b k))) = some (.d (.b !k)) := rfl
@[simp] theorem nt_e : nt (some (.e c)) = some (.e c) := rfl
@[simp] theorem cNot_ap : cNot f ρ = nt (f ρ) := rfl
def an (o : Option ER) (g : CF) (ρ : Sl) : Option ER := match o with
  | some (.d (.b true)) => g ρ
  | some (.d (.b false)) => some (.d (.b false))
  | some (.e c) => some (.e c)
  | _ => none
@[simp] theorem an_t : an (some (.d (.b true))) g ρ = g ρ := rfl
@[simp] theorem an_f : an (some (.d (.b false))) g ρ = some (.d (.b false)) := rfl
@[simp] theorem an_e : an (some (.e c)) g ρ = some (.e c) := rfl
@[simp] theorem cAnd_ap : cAnd f g ρ = an (f ρ) g ρ := rfl
def orr (o : Option ER) (g : CF) (ρ : Sl) : Option ER := match o with
  | some (.d (.b true)) => some (.d (.b true))
  | some (.d (.b false)) => g ρ
  | some (.e c) => some (.e c)
  | _ => none
@[simp] theorem orr_t : orr (some (.d (.b true))) g ρ = some (.d (.b true)) := rfl
@[simp] theorem orr_f : orr (some (.d (.b false))) g ρ = g ρ := rfl
@[simp] theorem orr_e : orr (some (.e c)) g ρ = some (.e c) := rfl
@[simp] theorem cOr_ap : cOr f g ρ = orr (f ρ) g ρ := rfl
theorem an_b (h : ∃ q, g ρ = some (.d (.b q))) : an (some (.d (.b k))) g ρ = if k = true then g ρ else some (.d (.b false)) := by cases k <;> rfl
/-- a chain's second half -/
def chn (o : Option ER) (q : PV → Option ER) (h : CF) (ρ : Sl) : Option ER := match o with
  | some (.d (.b true)) => e1 q (h ρ)
  | some (.d (.b false)) => some (.d (.b false))
  | _ => none
section
variable {q : PV → Option ER}
@[simp] theorem chn_t : chn (some (.d (.b true))) q h ρ = e1 q (h ρ) := rfl
@[simp] theorem chn_f : chn (some (.d (.b false))) q h ρ = some (.d (.b false)) := rfl
end
@[simp] theorem cChain_ap {q q' : PV → PV → Option ER} : cChain q q' f g h ρ = e1 (fun x => e1 (fun y => chn (q x y) (q' y) h ρ) (g ρ)) (f ρ) := rfl
@[simp] theorem cTup_ap {fs : List CF} : cTup fs ρ = cA (fun xs => if xs.length ≤ big then some (.d (.t xs)) else none) fs ρ := rfl
@[simp] theorem cLst_ap {fs : List CF} : cLst fs ρ = cA (fun xs => if xs.length ≤ big then some (.f xs) else none) fs ρ := rfl
@[simp] theorem cCall_ap {φ : List PV → Option ER} {fs : List CF} : cCall φ fs ρ = cA φ fs ρ := rfl
@[simp] theorem cA_nil {q : List PV → Option ER} : cA q [] ρ = q [] := rfl
@[simp] theorem cA_cons {q : List PV → Option ER} {fs : List CF} : cA q (f :: fs) ρ = eS (fun x => cA (fun xs => q (x :: xs)) fs ρ) (f ρ) := rfl
@[simp] theorem cSl_ap {lo hi : Option CF} : cSl f lo hi ρ = e1 (fun x => cP (fun a => cP (fun b => gCut x a b) hi ρ) lo ρ) (f ρ) := rfl
section
variable {q : Option Int → Option ER} {n : Int}
@[simp] theorem cP_none : cP q none ρ = q none := rfl
def pI (q : Option Int → Option ER) : PV → Option ER
  | .i k => q (some k)
  | _ => none
@[simp] theorem pI_i : pI q (.i n) = q (some n) := rfl
@[simp] theorem cP_some : cP q (some f) ρ = e1 (pI q) (f ρ) := rfl
end
@[simp] theorem cLc_ap {vs : List Nat} {it : CI} {tg : CT} : cLc vs it tg g f ρ = it (fun xs => if xs.length ≤ big then (lcGo tg g f (wipeS ρ vs) xs []).map .f else none) ρ := rfl
@[simp] theorem wipeS_nil : wipeS ρ [] = ρ := rfl
@[simp] theorem wipeS_cons {v : Nat} {vs : List Nat} : wipeS ρ (v :: vs) = (wipeS ρ vs).set v .u := rfl
@[simp] theorem cYes_ap : cYes ρ = some (.d (.b true)) := rfl
section
variable {q : List PV → Option ER} {n m : Int} {cs : List Nat}
def uL (q : List PV → Option ER) : PV → Option ER
  | .l xs => q xs
  | _ => none
def uT (q : List PV → Option ER) : PV → Option ER
  | .t xs => q xs
  | _ => none
def uS (q : List PV → Option ER) : PV → Option ER
  | .s cs => q (cs.map fun c => .s [c])
  | _ => none
@[simp] theorem uL_l : uL q (.l xs) = q xs := rfl
@[simp] theorem uT_t : uT q (.t xs) = q xs := rfl
@[simp] theorem uS_s : uS q (.s cs) = q (cs.map fun c => .s [c]) := rfl
@[simp] theorem iL_ap : iL f q ρ = eS (uL q) (f ρ) := rfl
@[simp] theorem iT_ap : iT f q ρ = eS (uT q) (f ρ) := rfl
@[simp] theorem iS_ap : iS f q ρ = eS (uS q) (f ρ) := rfl
def uR1 (q : List PV → Option ER) : PV → Option ER
  | .i n => if n.natAbs < lim then q (upTo 0 n.toNat) else none
  | _ => none
def uR2 (q : List PV → Option ER) : PV → PV → Option ER
  | .i a, .i b => if a.natAbs < lim ∧ b.natAbs < lim then q (upTo a (b - a).toNat) else none
  | _, _ => none
@[simp] theorem uR1_i : uR1 q (.i n) = if n.natAbs < lim then q (upTo 0 n.toNat) else none := rfl
@[simp] theorem uR2_i : uR2 q (.i n) (.i m) = if n.natAbs < lim ∧ m.natAbs < lim then q (upTo n (m - n).toNat) else none := rfl
@[simp] theorem iR1_ap : iR1 f q ρ = e1 (uR1 q) (f ρ) := rfl
@[simp] theorem iR2_ap : iR2 f g q ρ = e1 (fun x => e1 (uR2 q x) (g ρ)) (f ρ) := rfl
end
/-! operators -/
section
variable {n m : Int} {cs ds : List Nat} {ns : List Int}
@[simp] theorem gAdd_i : gAdd (.i n) (.i m) = some (.d (.i (n + m))) := rfl
@[simp] theorem gAdd_s : gAdd (.s cs) (.s ds) = if cs.length + ds.length ≤ big then some (.d (.s (cs ++ ds))) else none := rfl
@[simp] theorem gAdd_l : gAdd (.l xs) (.l ys) = if xs.length + ys.length ≤ big then some (.f (xs ++ ys)) else none := rfl
@[simp] theorem gSub_i : gSub (.i n) (.i m) = some (.d (.i (n - m))) := rfl
def small (n : Int) : Prop := -18446744073709551616 < n ∧ n < 18446744073709551616
theorem gMul_i : gMul (.i n) (.i m) = if CMulN n m then some (.d (.i (n * m))) else none := rfl
theorem gMul_l (h : -18446744073709551616 < n ∧ n < 18446744073709551616) : gMul (.i n) (.i m) = some (.d (.i (n * m))) := by
  rw [gMul_i, if_pos]
  exact .inl (by omega)
theorem gMul_r (h : -18446744073709551616 < m ∧ m < 18446744073709551616) : gMul (.i n) (.i m) = some (.d (.i (n * m))) := by
  rw [gMul_i, if_pos]
  exact .inr (by omega)
@[simp] theorem gMod_i : gMod (.i n) (.i m) = if 0 < m then some (.d (.i (n % m))) else none := rfl
@[simp] theorem gDiv_i : gDiv (.i n) (.i m) = if 0 < m ∧ m < 1073741824 then some (.d (.i (n / m))) else none := rfl
theorem gPow_i : gPow (.i n) (.i m) = if CPow n m then some (.d (.i (n ^ m.toNat))) else none := rfl
@[simp] theorem gLt_i : gLt (.i n) (.i m) = some (.d (.b (decide (n < m)))) := rfl
@[simp] theorem gLe_i : gLe (.i n) (.i m) = some (.d (.b (decide (n ≤ m)))) := rfl
@[simp] theorem gGt_i : gGt (.i n) (.i m) = some (.d (.b (decide (m < n)))) := rfl
@[simp] theorem gGe_i : gGe (.i n) (.i m) = some (.d (.b (decide (m ≤ n)))) := rfl
@[simp] theorem gNeg_i : gNeg (.i n) = some (.d (.i (-n))) := rfl
theorem gEq_l (h : dep x ≤ 60) (h' : dep y ≤ 60) : gEq x y = some (.d (.b (eqv x y))) := by unfold gEq; rw [if_pos ⟨h, h'⟩]
theorem gNe_l (h : dep x ≤ 60) (h' : dep y ≤ 60) : gNe x y = some (.d (.b (!eqv x y))) := by unfold gNe; rw [if_pos ⟨h, h'⟩]
theorem deps_map {α : Type} {m : α → PV} {k : Nat} (h : ∀ a, dep (m a) ≤ k) : ∀ L : List α, deps (L.map m) ≤ k
  | [] => by simp [deps]
  | a :: L => by
    have := h a
    have := deps_map h L
    simp only [List.map_cons, deps]
    omega
theorem deps_le {k : Nat} : ∀ {xs : List PV}, (∀ x ∈ xs, dep x ≤ k) → deps xs ≤ k
  | [], _ => by simp [deps]
  | x :: xs, h => by
    have := h x (by simp)
    have := deps_le (xs := xs) fun y hy => h y (by simp [hy])
    simp only [deps]
    omega
@[simp] theorem dep_n : dep .n = 0 := by simp [dep]
@[simp] theorem dep_b : dep (.b k) = 0 := by simp [dep]
@[simp] theorem dep_i : dep (.i n) = 0 := by simp [dep]
@[simp] theorem dep_s : dep (.s cs) = 0 := by simp [dep]
@[simp] theorem dep_l : dep (.l xs) = deps xs + 1 := by simp [dep]
@[simp] theorem dep_t : dep (.t xs) = deps xs + 1 := by simp [dep]
@[simp] theorem deps_nil : deps [] = 0 := by simp [deps]
@[simp] theorem deps_cons : deps (x :: xs) = max (dep x) (deps xs) := by simp [deps]
@[simp] theorem gEq_ii : gEq (.i n) (.i m) = some (.d (.b (n == m))) := by rw [gEq_l (by simp) (by simp)]; simp [eqv]
@[simp] theorem gNe_ii : gNe (.i n) (.i m) = some (.d (.b (!(n == m)))) := by rw [gNe_l (by simp) (by simp)]; simp [eqv]
@[simp] theorem gEq_ss : gEq (.s cs) (.s ds) = some (.d (.b (cs == ds))) := by rw [gEq_l (by simp) (by simp)]; simp [eqv]
@[simp] theorem gNe_ss : gNe (.s cs) (.s ds) = some (.d (.b (!(cs == ds)))) := by rw [gNe_l (by simp) (by simp)]; simp [eqv]
theorem gEq_l0 (h : deps xs ≤ 50) : gEq (.l xs) (.l []) = some (.d (.b xs.isEmpty)) := by rw [gEq_l (by simp; omega) (by simp)]; cases xs <;> simp [eqv, eqvs]
theorem gNe_l0 (h : deps xs ≤ 50) : gNe (.l xs) (.l []) = some (.d (.b (!xs.isEmpty))) := by rw [gNe_l (by simp; omega) (by simp)]; cases xs <;> simp [eqv, eqvs]
@[simp] theorem gEq_z0 : gEq (.z ns) (.l []) = some (.d (.b ns.isEmpty)) := by rw [gEq_l (by simp [dep, ints_depth]) (by simp)]; cases ns <;> simp [eqv, toPys, PyData.eqvAll]
@[simp] theorem gIsN_n : gIsN .n .n = some (.d (.b true)) := rfl
@[simp] theorem gIsN_i : gIsN (.i n) .n = some (.d (.b false)) := rfl
@[simp] theorem gIsN_l : gIsN (.l xs) .n = some (.d (.b false)) := rfl
@[simp] theorem gIsN_t : gIsN (.t xs) .n = some (.d (.b false)) := rfl
@[simp] theorem gIsN_s : gIsN (.s cs) .n = some (.d (.b false)) := rfl
@[simp] theorem gNoN_n : gNoN .n .n = some (.d (.b false)) := rfl
@[simp] theorem gNoN_i : gNoN (.i n) .n = some (.d (.b true)) := rfl
@[simp] theorem gNoN_l : gNoN (.l xs) .n = some (.d (.b true)) := rfl
@[simp] theorem gNoN_t : gNoN (.t xs) .n = some (.d (.b true)) := rfl
@[simp] theorem gNoN_s : gNoN (.s cs) .n = some (.d (.b true)) := rfl
@[simp] theorem gIdx_l : gIdx (.l xs) (.i n) = (L2.atI xs n).map .d := rfl
@[simp] theorem gIdx_t : gIdx (.t xs) (.i n) = (L2.atI xs n).map .d := rfl
@[simp] theorem gIdx_s : gIdx (.s cs) (.i n) = if cs.length ≤ big then (L2.atI cs n).map (fun c => .d (.s [c])) else none := rfl
@[simp] theorem gIdx_z : gIdx (.z ns) (.i n) = (L2.atI ns n).map (fun n => .d (.i n)) := rfl
theorem atI_nn {α : Type} {l : List α} (h : 0 ≤ n) : L2.atI l n = l[n.toNat]? := by
  unfold L2.atI L2.ixN
  rw [if_pos h]
  by_cases hl : n < l.length
  · rw [if_pos hl]; rfl
  · rw [if_neg hl, List.getElem?_eq_none_iff.mpr (by omega)]; rfl
@[simp] theorem atI_0 {α : Type} {l : List α} : L2.atI l 0 = l[0]? := atI_nn (by decide)
@[simp] theorem atI_1 {α : Type} {l : List α} : L2.atI l 1 = l[1]? := atI_nn (by decide)
@[simp] theorem atI_2 {α : Type} {l : List α} : L2.atI l 2 = l[2]? := atI_nn (by decide)
theorem atI_m1 {α : Type} {l : List α} : L2.atI l (-1) = l.getLast? := by
  unfold L2.atI L2.ixN
  rw [if_neg (by decide)]
  cases l with
  | nil => rfl
  | cons a r =>
    rw [if_pos (by simp; omega), List.getLast?_eq_getElem?]
    show (a :: r)[((-1 : Int) + ((a :: r).length : Int)).toNat]? = _
    congr 1
    simp
    omega
@[simp] theorem atI_last {α : Type} {l : List α} : L2.atI l (-1) = l.getLast? := atI_m1
@[simp] theorem gCut_s {lo hi : Option Int} : gCut (.s cs) lo hi = if cs.length ≤ big then some (.d (.s (cutP cs lo hi))) else none := rfl
@[simp] theorem gCut_l {lo hi : Option Int} : gCut (.l xs) lo hi = some (.f (cutP xs lo hi)) := rfl
theorem gCut_t {lo hi : Option Int} : gCut (.t xs) lo hi = if HT.sIx xs.length 0 lo = 0 ∧ HT.sIx xs.length xs.length hi = xs.length then none else some (.d (.t (cutP xs lo hi))) := rfl
theorem sIx_nn {k d : Nat} (h : 0 ≤ n) : HT.sIx k d (some n) = min n.toNat k := by
  have := HT.sIx_nat k d n.toNat
  rwa [Int.toNat_of_nonneg h] at this
theorem cutP_nn {α : Type} {l : List α} (h : 0 ≤ n) (h' : 0 ≤ m) : cutP l (some n) (some m) = (l.drop n.toNat).take (m.toNat - n.toNat) := by
  unfold cutP
  rw [sIx_nn h, sIx_nn h']
  by_cases hn : n.toNat ≤ l.length
  · rw [Nat.min_eq_left hn]
    by_cases hm : m.toNat ≤ l.length
    · rw [Nat.min_eq_left hm]
    · rw [Nat.min_eq_right (by omega), List.take_of_length_le (by simp), List.take_of_length_le (by simp; omega)]
  · rw [List.drop_of_length_le (by omega), List.drop_of_length_le (by omega)]; simp
theorem cutP_n0 {α : Type} {l : List α} (h : 0 ≤ n) : cutP l (some n) none = l.drop n.toNat := by
  unfold cutP
  rw [sIx_nn h, HT.sIx_none]
  by_cases hn : n.toNat ≤ l.length
  · rw [Nat.min_eq_left hn, List.take_of_length_le (by simp)]
  · rw [List.drop_of_length_le (by omega), List.drop_of_length_le (by omega)]; simp
theorem cutP_0n {α : Type} {l : List α} (h : 0 ≤ n) : cutP l none (some n) = l.take n.toNat := by
  unfold cutP
  rw [sIx_nn h, HT.sIx_none, List.drop_zero, Nat.sub_zero]
  by_cases hn : n.toNat ≤ l.length
  · rw [Nat.min_eq_left hn]
  · rw [Nat.min_eq_right (by omega), List.take_of_length_le (by omega), List.take_of_length_le (by omega)]
@[simp] theorem gLen_l : gLen (.l xs) = some (.d (.i xs.length)) := rfl
@[simp] theorem gLen_t : gLen (.t xs) = some (.d (.i xs.length)) := rfl
@[simp] theorem gLen_z : gLen (.z ns) = some (.d (.i ns.length)) := rfl
@[simp] theorem gLen_s : gLen (.s cs) = if cs.length ≤ big then some (.d (.i cs.length)) else none := rfl
@[simp] theorem gOrd_s {c : Nat} : gOrd (.s [c]) = some (.d (.i c)) := rfl
@[simp] theorem gInt_i : gInt (.i n) = some (.d (.i n)) := rfl
@[simp] theorem gInt_b : gInt (.b k) = some (.d (.i (if k then 1 else 0))) := rfl
@[simp] theorem gMin2_i : gMin2 (.i n) (.i m) = some (.d (.i (if m < n then m else n))) := rfl
@[simp] theorem gMax2_i : gMax2 (.i n) (.i m) = some (.d (.i (if m > n then m else n))) := rfl
@[simp] theorem gSum_l : gSum (.l xs) = (intsOf xs).map (fun ns => .d (.i ns.sum)) := rfl
@[simp] theorem gAll_l : gAll (.l xs) = (blsOf xs).map (fun bs => .d (.b (bs.all id))) := rfl
@[simp] theorem gList_l : gList (.l xs) = some (.f xs) := rfl
@[simp] theorem gList_t : gList (.t xs) = some (.f xs) := rfl
end
/-! isinstance -/
theorem kt7 : kitB "dict" "int" = some false := by decide +kernel
theorem kt1 : kitB "int" "int" = some true := by decide +kernel
theorem kt2 : kitB "bool" "int" = some true := by decide +kernel
theorem kt3 : kitB "str" "int" = some false := by decide +kernel
theorem kt4 : kitB "tuple" "int" = some false := by decide +kernel
theorem kt5 : kitB "list" "int" = some false := by decide +kernel
theorem kt6 : kitB "NoneType" "int" = some false := by decide +kernel
theorem kb7 : kitB "dict" "bool" = some false := by decide +kernel
theorem kb1 : kitB "int" "bool" = some false := by decide +kernel
theorem kb2 : kitB "bool" "bool" = some true := by decide +kernel
theorem kb3 : kitB "str" "bool" = some false := by decide +kernel
theorem kb4 : kitB "tuple" "bool" = some false := by decide +kernel
theorem kb5 : kitB "list" "bool" = some false := by decide +kernel
theorem kb6 : kitB "NoneType" "bool" = some false := by decide +kernel
theorem ks7 : kitB "dict" "str" = some false := by decide +kernel
theorem ks1 : kitB "int" "str" = some false := by decide +kernel
theorem ks2 : kitB "bool" "str" = some false := by decide +kernel
theorem ks3 : kitB "str" "str" = some true := by decide +kernel
theorem ks4 : kitB "tuple" "str" = some false := by decide +kernel
theorem ks5 : kitB "list" "str" = some false := by decide +kernel
theorem ks6 : kitB "NoneType" "str" = some false := by decide +kernel
theorem ku7 : kitB "dict" "tuple" = some false := by decide +kernel
theorem ku1 : kitB "int" "tuple" = some false := by decide +kernel
theorem ku2 : kitB "bool" "tuple" = some false := by decide +kernel
theorem ku3 : kitB "str" "tuple" = some false := by decide +kernel
theorem ku4 : kitB "tuple" "tuple" = some true := by decide +kernel
theorem ku5 : kitB "list" "tuple" = some false := by decide +kernel
theorem ku6 : kitB "NoneType" "tuple" = some false := by decide +kernel
theorem kl7 : kitB "dict" "list" = some false := by decide +kernel
theorem kl1 : kitB "int" "list" = some false := by decide +kernel
theorem kl2 : kitB "bool" "list" = some false := by decide +kernel
theorem kl3 : kitB "str" "list" = some false := by decide +kernel
theorem kl4 : kitB "tuple" "list" = some false := by decide +kernel
theorem kl5 : kitB "list" "list" = some true := by decide +kernel
theorem kl6 : kitB "NoneType" "list" = some false := by decide +kernel
def isI : PV → Bool | .i _ => true | .b _ => true | _ => false
def isB : PV → Bool | .b _ => true | _ => false
def isS : PV → Bool | .s _ => true | _ => false
def isU : PV → Bool | .t _ => true | _ => false
def isL : PV → Bool | .l _ => true | .z _ => true | _ => false
@[simp] theorem gIs_int : gIs "int" x = some (.d (.b (isI x))) := by cases x <;> simp [gIs, tyName, isI, kt1, kt2, kt3, kt4, kt5, kt6, kt7]
@[simp] theorem gIs_bool : gIs "bool" x = some (.d (.b (isB x))) := by cases x <;> simp [gIs, tyName, isB, kb1, kb2, kb3, kb4, kb5, kb6, kb7]
@[simp] theorem gIs_str : gIs "str" x = some (.d (.b (isS x))) := by cases x <;> simp [gIs, tyName, isS, ks1, ks2, ks3, ks4, ks5, ks6, ks7]
@[simp] theorem gIs_tuple : gIs "tuple" x = some (.d (.b (isU x))) := by cases x <;> simp [gIs, tyName, isU, ku1, ku2, ku3, ku4, ku5, ku6, ku7]
@[simp] theorem gIs_list : gIs "list" x = some (.d (.b (isL x))) := by cases x <;> simp [gIs, tyName, isL, kl1, kl2, kl3, kl4, kl5, kl6, kl7]
/-! defs -/
def fin : Option Fl → Option ER
  | some (.rt r) => some r
  | some (.nx _) => some (.d .n)
  | some (.ex c) => some (.e c)
  | _ => none
@[simp] theorem fin_rt : fin (some (.rt r)) = some r := rfl
@[simp] theorem fin_nx : fin (some (.nx ρ)) = some (.d .n) := rfl
@[simp] theorem fin_ex : fin (some (.ex c)) = some (.e c) := rfl
@[simp] theorem fin_no : fin none = none := rfl
theorem fnD_ap {n m : Nat} (h : xs.length = n) : fnD n m s xs = fin (s (xs.map .d ++ List.replicate (m - n) .u)) := by
  unfold fnD
  rw [if_pos h]
  unfold ini
  rw [h]
  rfl
variable {x1 x2 x3 x4 x5 : PV} {m : Nat}
theorem fnD1 : fnD 1 m s [x1] = fin (s (.d x1 :: List.replicate (m - 1) .u)) := fnD_ap rfl
theorem fnD2 : fnD 2 m s [x1, x2] = fin (s (.d x1 :: .d x2 :: List.replicate (m - 2) .u)) := fnD_ap rfl
theorem fnD3 : fnD 3 m s [x1, x2, x3] = fin (s (.d x1 :: .d x2 :: .d x3 :: List.replicate (m - 3) .u)) := fnD_ap rfl
theorem fnD4 : fnD 4 m s [x1, x2, x3, x4] = fin (s (.d x1 :: .d x2 :: .d x3 :: .d x4 :: List.replicate (m - 4) .u)) := fnD_ap rfl
theorem fnD5 : fnD 5 m s [x1, x2, x3, x4, x5] = fin (s (.d x1 :: .d x2 :: .d x3 :: .d x4 :: .d x5 :: List.replicate (m - 5) .u)) := fnD_ap rfl
@[simp] theorem rep0 : List.replicate 0 Sl1.u = [] := rfl
@[simp] theorem rep1 : List.replicate 1 Sl1.u = [.u] := rfl
@[simp] theorem rep2 : List.replicate 2 Sl1.u = [.u, .u] := rfl
@[simp] theorem rep3 : List.replicate 3 Sl1.u = [.u, .u, .u] := rfl
@[simp] theorem rep4 : List.replicate 4 Sl1.u = [.u, .u, .u, .u] := rfl
@[simp] theorem rep5 : List.replicate 5 Sl1.u = [.u, .u, .u, .u, .u] := rfl
@[simp] theorem rep6 : List.replicate 6 Sl1.u = [.u, .u, .u, .u, .u, .u] := rfl
@[simp] theorem rep7 : List.replicate 7 Sl1.u = [.u, .u, .u, .u, .u, .u, .u] := rfl
@[simp] theorem rep8 : List.replicate 8 Sl1.u = [.u, .u, .u, .u, .u, .u, .u, .u] := rfl
@[simp] theorem rep9 : List.replicate 9 Sl1.u = [.u, .u, .u, .u, .u, .u, .u, .u, .u] := rfl
@[simp] theorem rep10 : List.replicate 10 Sl1.u = [.u, .u, .u, .u, .u, .u, .u, .u, .u, .u] := rfl
@[simp] theorem rep11 : List.replicate 11 Sl1.u = [.u, .u, .u, .u, .u, .u, .u, .u, .u, .u, .u] := rfl
@[simp] theorem rep12 : List.replicate 12 Sl1.u = [.u, .u, .u, .u, .u, .u, .u, .u, .u, .u, .u, .u] := rfl
/-! comprehensions, turn by turn -/
def lcS (o : Option ER) (f : CF) (ρ : Sl) (acc : List PV) (k : List PV → Option (List PV)) : Option (List PV) := match o with
  | some (.d (.b true)) => (match f ρ with
    | some (.d y) => k (acc ++ [y])
    | some (.f ys) => k (acc ++ [.l ys])
    | _ => none)
  | some (.d (.b false)) => k acc
  | _ => none
theorem lcGo_cons {tg : CT} {acc : List PV} : lcGo tg g f ρ (x :: xs) acc = match tg x ρ with
  | none => none
  | some ρ' => lcS (g ρ') f ρ' acc (lcGo tg g f ρ xs) := by
  conv => lhs; unfold lcGo
  cases tg x ρ with
  | none => rfl
  | some ρ' =>
    show _ = lcS (g ρ') f ρ' acc (lcGo tg g f ρ xs)
    unfold lcS
    first
      | rfl
      | (dsimp only; done)
      | (dsimp only
         cases g ρ' with
         | none => rfl
         | some r =>
           cases r with
           | d x =>
             cases x with
             | b k =>
               cases k with
               | false => rfl
               | true =>
                 dsimp only
                 cases f ρ' with
                 | none => rfl
                 | some o => cases o <;> rfl
             | _ => rfl
           | _ => rfl)
@[simp] theorem lcGo_nil {tg : CT} {acc : List PV} : lcGo tg g f ρ [] acc = some acc := rfl
/-- a comprehension over what is worth m of each item -/
theorem lcGo_map {α : Type} {tg : CT} {m : α → PV} {w : α → PV} {L : List α} (htg : ∀ a ∈ L, ∃ ρ', tg (m a) ρ = some ρ' ∧ g ρ' = some (.d (.b true)) ∧ f ρ' = some (.d (w a))) : ∀ acc, lcGo tg g f ρ (L.map m) acc = some (acc ++ L.map w) := by
  induction L with
  | nil => intro acc; simp
  | cons a L ih =>
    intro acc
    obtain ⟨ρ', h1, h2, h3⟩ := htg a (by simp)
    rw [List.map_cons, lcGo_cons, h1]
    simp only [h2, h3, lcS]
    rw [ih (fun b hb => htg b (by simp [hb]))]
    simp
/-- .. with a test -/
theorem lcGo_filter {α : Type} {tg : CT} {m : α → PV} {w : α → PV} {p : α → Bool} {L : List α} (htg : ∀ a ∈ L, ∃ ρ', tg (m a) ρ = some ρ' ∧ g ρ' = some (.d (.b (p a))) ∧ (p a = true → f ρ' = some (.d (w a)))) : ∀ acc, lcGo tg g f ρ (L.map m) acc = some (acc ++ (L.filter p).map w) := by
  induction L with
  | nil => intro acc; simp
  | cons a L ih =>
    intro acc
    obtain ⟨ρ', h1, h2, h3⟩ := htg a (by simp)
    rw [List.map_cons, lcGo_cons, h1]
    have ih' := ih (fun b hb => htg b (by simp [hb]))
    cases hp : p a with
    | true =>
      simp only [h2, hp, h3 hp, lcS]
      rw [ih', List.filter_cons_of_pos hp]
      simp
    | false =>
      simp only [h2, hp, lcS]
      rw [ih', List.filter_cons_of_neg (by simp [hp])]
theorem upTo_map (lo : Int) (n : Nat) : upTo lo n = (List.range n).map fun k => PV.i (lo + (k : Nat)) := rfl
theorem range_split {n k : Nat} {pre post : List Nat} (h : List.range n = pre ++ k :: post) : k = pre.length ∧ pre.length < n := by
  have e1 := congrArg (fun l => l[pre.length]?) h
  have e2 := congrArg List.length h
  simp at e1 e2
  have hlt : pre.length < n := by omega
  rw [List.getElem?_eq_getElem (by simpa using hlt)] at e1
  simp at e1
  omega
/-- a turn comes to its end, and what then holds -/
def GoesTo (o : Option Fl) (P : Sl → Prop) : Prop := match o with
  | some (.nx ρ) => P ρ
  | some (.ct ρ) => P ρ
  | _ => False
@[simp] theorem goesTo_nx {P : Sl → Prop} : GoesTo (some (.nx ρ)) P = P ρ := rfl
@[simp] theorem goesTo_ct {P : Sl → Prop} : GoesTo (some (.ct ρ)) P = P ρ := rfl
def Tu (o : Option Sl) (s : CS) (P : Sl → Prop) : Prop := match o with
  | some ρ => GoesTo (s ρ) P
  | none => False
@[simp] theorem tu_some {P : Sl → Prop} : Tu (some ρ) s P = GoesTo (s ρ) P := rfl
theorem GoesTo.ex {o : Option Fl} {P : Sl → Prop} (h : GoesTo o P) : ∃ ρ', (o = some (.nx ρ') ∨ o = some (.ct ρ')) ∧ P ρ' := by
  unfold GoesTo at h
  split at h
  · exact ⟨_, .inl rfl, h⟩
  · exact ⟨_, .inr rfl, h⟩
  · exact h.elim
/-- a loop whose turns carry a state on -/
theorem forGo_inv {α : Type} {tg : CT} {m : α → PV} {L : List α} (S : List α → Sl → Prop) (h0 : S [] ρ) (hs : ∀ pre a post, L = pre ++ a :: post → ∀ ρ1, S pre ρ1 → Tu (tg (m a) ρ1) s (S (pre ++ [a]))) :
    ∃ ρ', forGo tg s (L.map m) ρ = some (.nx ρ') ∧ S L ρ' := by
  have key : ∀ (post pre : List α) (ρ1 : Sl), L = pre ++ post → S pre ρ1 → ∃ ρ', forGo tg s (post.map m) ρ1 = some (.nx ρ') ∧ S L ρ' := by
    intro post
    induction post with
    | nil => intro pre ρ1 e h; exact ⟨ρ1, rfl, by rw [e, List.append_nil]; exact h⟩
    | cons a post ih =>
      intro pre ρ1 e h
      have h1 := hs pre a post e ρ1 h
      cases ht : tg (m a) ρ1 with
      | none => rw [ht] at h1; exact h1.elim
      | some ρ2 =>
        rw [ht] at h1
        obtain ⟨ρ3, h2, h3⟩ := GoesTo.ex h1
        obtain ⟨ρ', h4, h5⟩ := ih (pre ++ [a]) ρ3 (by rw [e]; simp) h3
        refine ⟨ρ', ?_, h5⟩
        rw [List.map_cons, forGo_cons, ht]
        rcases h2 with h2 | h2 <;> simp only [h2, tn_nx, tn_ct, h4]
  exact key L [] ρ rfl h0
end
end DD
/-! more operators: steps, texts, sums of tuples -/
namespace DD
open PySem PySem.Spec L2
section
variable {K : PySem.W.Frag} {CA : Err → Addr} {W : WX} {te ta tb tc : TE} {tt tu : TT} {f f1 f2 f3 : CF} {H0 F H : Hp} {σ : L2.St} {ρ : Sl} {g : PV → Option ER}
/-! ### range with a step -/
def steps (lo c : Int) (n : Nat) : List PV := (List.range n).map fun k => .i (lo + (k : Nat) * c)
def stepN (a b c : Int) : Nat := if a < b then ((b - a - 1) / c + 1).toNat else 0
def iR3 (f1 f2 f3 : CF) : CI := fun g ρ => e1 (fun x => e1 (fun y => e1 (fun z => match x, y, z with
  | .i a, .i b, .i c => if a.natAbs < 1073741824 ∧ b.natAbs < 1073741824 ∧ 0 < c ∧ c.natAbs < 1073741824 then g (steps a c (stepN a b c)) else none
  | _, _, _ => none) (f3 ρ)) (f2 ρ)) (f1 ρ)
theorem rgC_up {a b c : Int} (ha : a.natAbs < 1073741824) (hb : b.natAbs < 1073741824) (h0 : 0 < c) (hc : c.natAbs < 1073741824) : RgC a b c (stepN a b c) := by
  have hq : a < b → 0 ≤ (b - a - 1) / c ∧ (b - a - 1) / c ≤ b - a - 1 ∧ (b - a - 1) / c * c ≤ b - a - 1 := fun hab => ⟨Int.ediv_nonneg (by omega) (by omega), Int.ediv_le_self _ (by omega), Int.ediv_mul_le _ (by omega)⟩
  have e : Builtin.Range.rangeSize a b c = if a < b then (b - a - 1) / c + 1 else 0 := by
    unfold Builtin.Range.rangeSize
    rw [if_pos (show c > 0 from h0)]
  refine ⟨by omega, hc, ?_, ?_⟩
  · unfold Builtin.Range.small
    rw [e]
    simp only [Builtin.Range.rangeFitsLong, Bool.and_eq_true, Bool.or_eq_true, decide_eq_true_eq, beq_iff_eq, show c > 0 from h0, if_true]
    by_cases hab : a < b
    · obtain ⟨q0, q1, q2⟩ := hq hab
      simp only [hab, if_true]
      generalize (b - a - 1) / c = k at *
      refine ⟨⟨⟨⟨?_, ?_⟩, ?_, ?_⟩, ?_, ?_⟩, .inr ⟨?_, ?_⟩⟩ <;> omega
    · simp only [hab, if_false]
      refine ⟨⟨⟨⟨?_, ?_⟩, ?_, ?_⟩, ?_, ?_⟩, .inl trivial⟩ <;> omega
  · rw [e]
    unfold stepN
    by_cases hab : a < b
    · have := hq hab
      rw [if_pos hab, if_pos hab]; omega
    · rw [if_neg hab, if_neg hab]; rfl
theorem steps_get {lo c : Int} {n i : Nat} {d : PV} (h : (steps lo c n)[i]? = some d) : i < n ∧ d = .i (lo + (i : Nat) * c) := by
  unfold steps at h
  rw [List.getElem?_map] at h
  by_cases hi : i < n
  · rw [List.getElem?_range hi] at h
    cases h
    exact ⟨hi, rfl⟩
  · rw [List.getElem?_eq_none_iff.mpr (by simp; omega)] at h
    cases h
theorem walks_steps (lo c : Int) (n : Nat) : Walks K (Itc lo c n) F H (steps lo c n) := by
  intro i F2 H2 s1 s2
  refine ⟨fun d hd => ?_, fun hn => ?_⟩
  · obtain ⟨hi, rfl⟩ := steps_get hd
    refine ⟨hi, fun x H3 hy => ?_⟩
    obtain ⟨rfl, rfl⟩ := hy
    exact ⟨F2, Gr.refl s2, Dat.i _⟩
  · have := List.getElem?_eq_none_iff.mp hn
    unfold steps at this
    show n ≤ i
    simpa using this
theorem di_r3 (h : DE K CA W ta f1) (h' : DE K CA W tb f2) (h'' : DE K CA W tc f3) : DI K CA W (iRng3 (tCons ta (tCons tb (tCons tc tNil)))) (iR3 f1 f2 f3) := by
  intro H0 F H σ ρ z g R Rp hz he k
  refine h.go Rp hz he fun x v F1 H1 g1 o1 e1 => ?_
  refine h'.go (Rp.up g1) e1 (fun c e F' H' gr => he c e F' H' (g1.trans gr)) fun y w F2 H2 g2 o2 e2 => ?_
  have g12 := g1.trans g2
  refine h''.go (Rp.up g12) e2 (fun c e F' H' gr => he c e F' H' (g12.trans gr)) fun y' w' F3 H3 g3 o3 e3 => ?_
  split at e3
  · rename_i n m c
    split at e3
    · rename_i hl
      exact ⟨n, m, c, _, by rw [o1.i, o2.i, o3.i], rgC_up hl.1 hl.2.1 hl.2.2.1 hl.2.2.2, k _ _ F3 H3 (g12.trans g3) (walks_steps n c _) e3⟩
    · cases e3
  · cases e3

/-! ### sum of a tuple -/
def gSumT : PV → Option ER
  | .t xs => (intsOf xs).map fun ns => .d (.i ns.sum)
  | _ => none
def rSumT (K : PySem.W.Frag) : List V → Hp → VK → Prop := fun vs H Q => ∃ (a : Addr) (ns : List Int), vs = [V.ref a] ∧ SqT K H a (ns.map V.int) ∧ Q (.int ns.sum) H
theorem cr_sumT {X : Cx} (hc : X.calm = true) : CallR X (.builtin "sum") (rSumT X.K) := by
  intro pins s σ H vs us Q I r h
  obtain ⟨a, ns, rfl, hs, q⟩ := h
  obtain ⟨its, rv, hl, _⟩ := I.tuple hs
  rw [Vals.ref1 r]
  have hi : PyProof.Rows.IntsAre its ns := rv.ints
  obtain ⟨o, ho, hcl, n, hd⟩ := hl
  have hT : s.heap.IsTuple a its.toArray := ⟨o, ho, hcl, n, hd⟩
  obtain ⟨xs, e⟩ := hi.allInts.items
  have hn : numsOf (intItems xs).toList = ns := by rw [← e]; exact hi.numsOf
  rw [PySem.nums_intItems] at hn
  rw [e] at hT
  refine PySem.W.ktm_sumG (I.ok.hd hc) hT fun h' tk t' hk => ?_
  rw [PySem.preSum_eq, List.take_of_length_le (by simp), hn]
  exact ⟨.int _, H, I.kept hk, ⟨_, rfl⟩, q⟩
theorem op_sumT : Op1C K (rSumT K) gSumT := by
  intro F H x a z Q s v1 e k
  unfold gSumT at e
  split at e
  · rename_i xs
    cases hi : intsOf xs with
    | none => rw [hi] at e; cases e
    | some ns =>
      rw [hi] at e
      cases e
      obtain ⟨p, vs, rfl, h1, h2⟩ := v1.t s
      rw [intsOf_eq hi] at h2
      rw [h2.ints] at h1
      exact ⟨p, ns, rfl, h1, k _ F H (Gr.refl s) (Dat.i _)⟩
  · cases e

/-! ### list(text), list(range(a, b)) -/
def gListS : PV → Option ER
  | .s cs => if cs.length ≤ big then some (.f (cs.map fun c => .s [c])) else none
  | _ => none
def rListS : List V → Hp → VK → Prop := fun xs H Q => ∃ a : Str, xs = [.str a] ∧ a.length ≤ sizeLine ∧ ∀ q, H q = none → Q (.ref q) (upd H q (.lst (a.cps.toList.map fun c => V.str ⟨#[c]⟩)))
theorem vals_signs {a : Str} {acc : Array Value} (h : ItemsOf (SignAt a) acc a.cps.size) : Vals (a.cps.toList.map fun c => V.str ⟨#[c]⟩) acc.toList := by
  have e : acc.toList.length = a.cps.size := by rw [Array.length_toList]; exact h.1
  have key := vals_of_get acc.toList (fun j => V.str ⟨#[a.cps.getD j 0]⟩) fun j u hj => by
    obtain ⟨c, t, h1, rfl⟩ := h.2 j u (by rw [← hj, Array.getElem?_toList])
    refine ⟨t, ?_⟩
    have : a.cps.getD j 0 = c := by rw [Array.getD_eq_getD_getElem?, h1]; rfl
    rw [this]
  have e2 : (List.range acc.toList.length).map (fun j => V.str ⟨#[a.cps.getD j 0]⟩) = a.cps.toList.map fun c => V.str ⟨#[c]⟩ := by
    apply List.ext_getElem?
    intro j
    rw [e, List.getElem?_map, List.getElem?_map]
    by_cases hj : j < a.cps.size
    · rw [List.getElem?_range hj, List.getElem?_eq_getElem (by simpa using hj)]
      simp [Array.getD_eq_getD_getElem?, hj]
    · rw [List.getElem?_eq_none_iff.mpr (by simp; omega), List.getElem?_eq_none_iff.mpr (by simp; omega)]
      rfl
  rw [e2] at key
  exact key
theorem call_listS {X : Cx} (hc : X.calm = true) : CallR X (.type "list") rListS := by
  intro pins s σ H xs us Q I r h
  obtain ⟨a, rfl, hl, q⟩ := h
  obtain ⟨u, rfl, t, rfl⟩ := vals1 r
  refine PySem.call_list_str (I.ok.hd hc) a t (hn := hl) fun h' tk acc c' hk e' hi => ?_
  refine ⟨.ref s.heap.objs.size, upd H s.heap.objs.size (.lst (a.cps.toList.map fun c => V.str ⟨#[c]⟩)), I.laid hk (Nat.le_refl _) (show ObjOk X.prog X.w _ _ _ (.lst (a.cps.toList.map fun c => V.str ⟨#[c]⟩)) from ⟨?_, acc.toList, c', vals_signs hi, ?_⟩), rfl, q _ (I.hok.fresh (Nat.le_refl _))⟩
  · rw [List.length_map, Array.length_toList]; exact hl
  · rw [Array.toArray_toList]; exact e'
theorem dats_signs : ∀ cs : List Nat, Dats K F (cs.map fun c => V.str ⟨#[c]⟩) (cs.map fun c => PV.s [c])
  | [] => .nil
  | c :: cs => .cons (.s [c]) (dats_signs cs)
theorem op_listS : Op1C K rListS gListS := by
  intro F H x a z Q s v1 e k
  unfold gListS at e
  split at e
  · rename_i cs
    split at e
    · rename_i hl
      cases e
      refine ⟨_, congrArg (fun t => [t]) v1.s, by rw [str_len, big_eq]; exact hl, fun q hq => ?_⟩
      exact k _ F _ (Gr.new s hq) ⟨q, _, rfl, hq, s.free hq, upd_same, dats_signs cs⟩
    · cases e
  · cases e
def gListR : PV → PV → Option ER
  | .i a, .i b => if a.natAbs < 1073741824 ∧ b.natAbs < 1073741824 ∧ (b - a).natAbs ≤ big then some (.f (upTo a (b - a).toNat)) else none
  | _, _ => none
theorem dats_rg (a b : Int) : Dats K F (rgV a b) (upTo a (b - a).toNat) := by
  unfold rgV upTo
  generalize List.range (b - a).toNat = L
  induction L with
  | nil => exact .nil
  | cons k L ih => exact .cons (.i _) ih
theorem de_listR (h : DE K CA W ta f1) (h' : DE K CA W tb f2) : DE K CA W (tLstRg (tRg2 ta tb)) (c2 gListR f1 f2) := by
  intro H0 F H σ ρ z Q R hz hq he
  refine h.go R hz he fun x v F1 H1 g1 o1 e1 => ?_
  refine h'.go (R.up g1) e1 (fun c e F' H' gr => he c e F' H' (g1.trans gr)) fun y w F2 H2 g2 o2 e2 => ?_
  have g12 := g1.trans g2
  unfold gListR at e2
  split at e2
  · rename_i n m
    split at e2
    · rename_i hl
      cases e2
      unfold big at hl
      refine ⟨n, m, o1.i, o2.i, ⟨by omega, by omega, by omega, by omega, by omega⟩, fun q hq' => ?_⟩
      exact hq _ F2 _ (g12.trans (Gr.new g2.s hq')) ⟨q, _, rfl, g12.h.free hq', g2.s.free hq', upd_same, dats_rg n m⟩
    · cases e2
  · cases e2

/-! ### methods of a text: join, split, find -/
def cM1 (g : List Nat → PV → Option ER) (f1 f2 : CF) : CF := fun ρ => e1 (fun x => match x with | .s cs => e1 (g cs) (f2 ρ) | _ => none) (f1 ρ)
def OpM1 (K : PySem.W.Frag) (r : V → List V → Hp → VK → Prop) (g : List Nat → PV → Option ER) : Prop := ∀ (F H : Hp) (x : List Nat) (y : V) (b : PV) (z : ER) (Q : VK), Same F H → Val K F H y b → g x b = some z →
  (∀ v F' H', Gr F H F' H' → VOk K H F' H' v z → Q v H') → r (.str ⟨x.toArray⟩) [y] H Q
theorem de_m1 {r : V → List V → Hp → VK → Prop} {g : List Nat → PV → Option ER} (ho : OpM1 K r g) (ha : DE K CA W ta f1) (hb : DE K CA W tb f2) : DE K CA W (tM1 r ta tb) (cM1 g f1 f2) := by
  intro H0 F H σ ρ z Q R hz hq he
  refine ha.go R hz he fun x v F1 H1 g1 o1 h1 => ?_
  cases x with
  | s cs =>
    refine ⟨⟨_, o1.s⟩, ?_⟩
    refine hb.go (R.up g1) h1 (fun c e F' H' gr => he c e F' H' (g1.trans gr)) fun y w F2 H2 g2 o2 h2 => ?_
    rw [o1.s]
    exact ho F2 H2 cs w y z Q g2.s o2 h2 fun u F' H' g3 ok => hq u F' H' (g1.trans (g2.trans g3)) (ok.back (g1.h.trans g2.h))
  | _ => cases h1
abbrev lensum (ys : List (List Nat)) : Nat := (ys.map (·.length)).sum
def gJoin (a : List Nat) : PV → Option ER
  | .l xs => (strsOf xs).bind fun ys => if lensum ys + ys.length * a.length ≤ big then some (.d (.s (TL.joinL a ys))) else none
  | _ => none
def rJoin (K : PySem.W.Frag) : V → List V → Hp → VK → Prop := fun x xs H Q => ∃ a p, ∃ ys : List Str, x = .str a ∧ xs = [.ref p] ∧ (SqL K H p (ys.map V.str) ∨ SqT K H p (ys.map V.str)) ∧
      (ys.map (·.length)).sum + ys.length * a.length ≤ 16777216 ∧ Q (.str (Txt.join a ys)) H
theorem op_joinP : OpM1 K (rJoin K) gJoin := by
  intro F H x y b z Q s v1 e k
  unfold gJoin at e
  split at e
  · rename_i xs
    cases hs : strsOf xs with
    | none => rw [hs] at e; cases e
    | some ys =>
      rw [hs] at e
      dsimp only [Option.bind] at e
      split at e
      · rename_i hl
        cases e
        obtain ⟨p, vs, rfl, h1, h2⟩ := v1.l s
        rw [strsOf_eq hs] at h2
        rw [h2.strs] at h1
        refine ⟨_, p, ys.map SX.S, rfl, rfl, .inl (SqL.of ?_), ?_, ?_⟩
        · rw [List.map_map]; exact h1
        · rw [SX.lens, List.length_map, str_len]; exact hl
        · show Q (.str (Txt.join (SX.S x) (ys.map SX.S))) H
          rw [SX.join_S]
          exact k _ F H (Gr.refl s) (Dat.s _)
      · cases e
  · cases e
/-- text.split(sep) -/
def gSplit (a : List Nat) : PV → Option ER
  | .s b => if b ≠ [] ∧ b.all (· < 256) = true ∧ a.length + 2 ≤ big then some (.f ((TL.spl b 0 [] a).map .s)) else none
  | _ => none
def rSplit : V → List V → Hp → VK → Prop := fun x xs H Q => ∃ a b, x = .str a ∧ xs = [.str b] ∧ (b.length == 0) = false ∧ a.length + 2 ≤ sizeLine ∧ rNewStrs (Txt.split a b) H Q
theorem Dats.of_strs : ∀ ys : List (List Nat), Dats K F ((ys.map SX.S).map V.str) (ys.map PV.s)
  | [] => .nil
  | y :: ys => .cons (.s y) (Dats.of_strs ys)
theorem op_splitP : OpM1 K rSplit gSplit := by
  intro F H x y b z Q s v1 e k
  unfold gSplit at e
  split at e
  · rename_i b
    split at e
    · rename_i hl
      cases e
      refine ⟨_, ⟨b.toArray⟩, rfl, by rw [v1.s], ?_, by rw [str_len, big_eq]; exact hl.2.2, fun p hp => ?_⟩
      · rw [str_len]
        cases b with
        | nil => exact absurd rfl hl.1
        | cons _ _ => rfl
      · show Q (.ref p) (upd H p (.lst ((Txt.split (SX.S x) (SX.S b)).map V.str)))
        rw [SX.split_S hl.1 hl.2.1]
        exact k _ F _ (Gr.new s hp) ⟨p, _, rfl, hp, s.free hp, upd_same, Dats.of_strs _⟩
    · cases e
  · cases e
end
/-! ### the rules -/
section
variable {X : Cx} {K : PySem.W.Frag} {CA : Err → Addr} {W : WX} {a b c e o : Expr} {ta tb tc te : TE} {fa fb fc f : CF} {pos p p2 : Pos} {tg : Expr}
theorem pix_r3 (hm : X.mg "range" = none) (h : PX X K CA W a ta fa) (h2 : PX X K CA W b tb fb) (h3 : PX X K CA W c tc fc) (hg : Gl X "range" := by rfl)
    (hs : starEach [a, b, c] X.env = (false, eval a X.env) :: starEach [b, c] X.env := by rfl) (hs2 : starEach [b, c] X.env = (false, eval b X.env) :: starEach [c] X.env := by rfl) (hs3 : starEach [c] X.env = (false, eval c X.env) :: starEach [] X.env := by rfl) (hpl : (backTo pos (starEach [b, c] X.env)).any (·.1) = false := by rfl) :
    PIX X K CA W tg (.Call (.Name "range" p) [a, b, c] [] pos) (iRng3 (tCons ta (tCons tb (tCons tc tNil)))) (iR3 fa fb fc) :=
  ⟨pi_range3 hg hm (pa_cons h.pe (pa_cons h2.pe (pa_cons h3.pe pa_nil hs3) hs2) hs) hs hpl, di_r3 h.de h2.de h3.de⟩
theorem px_sumT (hc : X.calm = true) (hm : X.mg "sum" = none) (h : PX X K CA W e te f) (hg : Gl X "sum" := by rfl) (hs : starEach [e] X.env = (false, eval e X.env) :: starEach [] X.env := by rfl) (hK : X.K = K := by rfl) : PX X K CA W (.Call (.Name "sum" p) [e] [] pos) (tCB (rSumT K) (tCons te tNil)) (c1 gSumT f) := by
  subst hK
  exact ⟨pe_callB (cr_sumT hc) hg hm (by decide +kernel) (pax1 h hs) (by decide) (by decide) hs rfl, de_B1 op_sumT h.de⟩
theorem px_listS (hc : X.calm = true) (hm : X.mg "list" = none) (h : PX X K CA W e te f) (hg : Gl X "list" := by rfl) (hs : starEach [e] X.env = (false, eval e X.env) :: starEach [] X.env := by rfl) : PX X K CA W (.Call (.Name "list" p) [e] [] pos) (tCB rListS (tCons te tNil)) (c1 gListS f) :=
  ⟨pe_callTy (call_listS hc) hg hm (by decide +kernel) (pax1 h hs) (by decide) (by decide) hs rfl, de_B1 op_listS h.de⟩
theorem px_listR (hc : X.calm = true) (hm : X.mg "list" = none) (hm2 : X.mg "range" = none) (h : PX X K CA W a ta fa) (h2 : PX X K CA W b tb fb) {pos2 : Pos} (hg : Gl X "list" := by rfl) (hg2 : Gl X "range" := by rfl)
    (na : starEach [a, b] X.env = (false, eval a X.env) :: starEach [b] X.env := by rfl) (nb : starEach [b] X.env = (false, eval b X.env) :: starEach [] X.env := by rfl) (hp : (backTo pos (starEach [b] X.env)).any (·.1) = false := by rfl)
    (nc : starEach [.Call (.Name "range" p2) [a, b] [] pos] X.env = (false, eval (.Call (.Name "range" p2) [a, b] [] pos) X.env) :: starEach [] X.env := by rfl) :
    PX X K CA W (.Call (.Name "list" p) [.Call (.Name "range" p2) [a, b] [] pos] [] pos2) (tLstRg (tRg2 ta tb)) (c2 gListR fa fb) := ⟨pe_listRg hc hg hm (prg_2 hg2 hm2 h.pe h2.pe na nb hp) nc, de_listR h.de h2.de⟩
theorem px_join (h : PX X K CA W o ta fa) (h2 : PX X K CA W e tb fb) {apos : Pos} (hs : starEach [e] X.env = [(false, eval e X.env)] := by rfl) (hbase : attributeBase o "join" X.env (eval o X.env) = eval o X.env := by rfl) (hline : (apos.endLine == pos.line) = true := by rfl) (hK : X.K = K := by rfl) :
    PX X K CA W (.Call (.Attribute o "join" apos) [e] [] pos) (tM1 (rJoin K) ta tb) (cM1 gJoin fa fb) := by
  subst hK
  exact ⟨pe_join h.pe h2.pe hs hbase hline, de_m1 op_joinP h.de h2.de⟩
theorem px_split (h : PX X K CA W o ta fa) (h2 : PX X K CA W e tb fb) {apos : Pos} (hs : starEach [e] X.env = [(false, eval e X.env)] := by rfl) (hbase : attributeBase o "split" X.env (eval o X.env) = eval o X.env := by rfl) (hline : (apos.endLine == pos.line) = true := by rfl) :
    PX X K CA W (.Call (.Attribute o "split" apos) [e] [] pos) (tM1 rSplit ta tb) (cM1 gSplit fa fb) := ⟨pe_split h.pe h2.pe hs hbase hline, de_m1 op_splitP h.de h2.de⟩
end
end DD
/-! rows for simp of the further operators -/
namespace DD
open PySem PySem.Spec L2
section
variable {f g h : CF} {ρ : Sl} {x y : PV} {xs ys : List PV} {q : List PV → Option ER} {a b c : Int} {cs ds : List Nat} {r : ER}
def uR3 (q : List PV → Option ER) : PV → PV → PV → Option ER
  | .i a, .i b, .i c => if a.natAbs < 1073741824 ∧ b.natAbs < 1073741824 ∧ 0 < c ∧ c.natAbs < 1073741824 then q (steps a c (stepN a b c)) else none
  | _, _, _ => none
@[simp] theorem uR3_i : uR3 q (.i a) (.i b) (.i c) = if a.natAbs < 1073741824 ∧ b.natAbs < 1073741824 ∧ 0 < c ∧ c.natAbs < 1073741824 then q (steps a c (stepN a b c)) else none := rfl
@[simp] theorem iR3_ap : iR3 f g h q ρ = e1 (fun x => e1 (fun y => e1 (uR3 q x y) (h ρ)) (g ρ)) (f ρ) := rfl
@[simp] theorem gSumT_t : gSumT (.t xs) = (intsOf xs).map fun ns => .d (.i ns.sum) := rfl
def uM (q : List Nat → PV → Option ER) (o : Option ER) : PV → Option ER
  | .s cs => e1 (q cs) o
  | _ => none
@[simp] theorem uM_s {q : List Nat → PV → Option ER} {o : Option ER} : uM q o (.s cs) = e1 (q cs) o := rfl
@[simp] theorem cM1_ap {q : List Nat → PV → Option ER} : cM1 q f g ρ = e1 (uM q (g ρ)) (f ρ) := rfl
@[simp] theorem gJoin_l : gJoin cs (.l xs) = (strsOf xs).bind fun ys => if lensum ys + ys.length * cs.length ≤ big then some (.d (.s (TL.joinL cs ys))) else none := rfl
@[simp] theorem gSplit_s : gSplit cs (.s ds) = if ds ≠ [] ∧ ds.all (· < 256) = true ∧ cs.length + 2 ≤ big then some (.f ((TL.spl ds 0 [] cs).map .s)) else none := rfl
@[simp] theorem gListS_s : gListS (.s cs) = if cs.length ≤ big then some (.f (cs.map fun c => .s [c])) else none := rfl
@[simp] theorem gListR_i : gListR (.i a) (.i b) = if a.natAbs < 1073741824 ∧ b.natAbs < 1073741824 ∧ (b - a).natAbs ≤ big then some (.f (upTo a (b - a).toNat)) else none := rfl
@[simp] theorem big_0 : 0 < big := by unfold big; omega
@[simp] theorem big_1 : 1 ≤ big := by unfold big; omega
@[simp] theorem big_2 : 2 ≤ big := by unfold big; omega
@[simp] theorem big_3 : 3 ≤ big := by unfold big; omega
@[simp] theorem big_4 : 4 ≤ big := by unfold big; omega
@[simp] theorem big_5 : 5 ≤ big := by unfold big; omega
@[simp] theorem big_6 : 6 ≤ big := by unfold big; omega
@[simp] theorem big_7 : 7 ≤ big := by unfold big; omega
end
end DD
/-! what the laws draw of a script -/
namespace DD
open PySem PySem.Spec L2
def b_q_cell_at : CS := (cSeq (cIf (c2 gLt (cV 1) (c1 gLen (cV 0)))
    (cRet (c2 gIdx (cV 0) (cV 1)))
    cNext)
    (cSeq (cIf (c2 gEq (cV 0) (cLst []))
    (cRet (cK (.i 0)))
    cNext)
    (cRet (c2 gAdd (c2 gMul (c2 gIdx (cV 0) (c2 gMod (cV 1) (c1 gLen (cV 0)))) (cK (.i 31))) (cV 1)))))
def q_cell_at : List PV → Option ER := fnD 2 2 b_q_cell_at
def b_q_mixed : CS := (cSeq (cAsg 3 (c2 gMod (c2 gMul (c2 gAdd (c2 gAdd (cCall q_cell_at [(cV 0), (cV 1)]) (c2 gMul (cK (.i 7919)) (cV 1))) (cK (.i 1))) (cK (.i 48271))) (cK (.i 2147483647))))
    (cRet (c2 gMod (c2 gMod (c2 gAdd (c2 gAdd (c2 gMul (cV 3) (cV 3)) (c2 gMul (cK (.i 7)) (cV 3))) (cV 1)) (cK (.i 2147483629))) (cV 2))))
def q_mixed : List PV → Option ER := fnD 3 4 b_q_mixed
def b1_q_text : CS := (cSeq (cAsg 7 (c2 gMod (c2 gMul (c2 gAdd (c2 gAdd (cV 4) (c2 gMul (c2 gMul (cK (.i 7919)) (cV 6)) (cV 6))) (c2 gMul (cK (.i 104729)) (cV 6))) (cK (.i 48271))) (cK (.i 2147483647))))
    (cAsg 5 (c2 gAdd (cV 5) (c2 gIdx (cV 3) (c2 gMod (c2 gDiv (c2 gMod (c2 gMul (cV 7) (c2 gAdd (cV 7) (cK (.i 3)))) (cK (.i 2147483629))) (cK (.i 7))) (c1 gLen (cV 3)))))))
def b_q_text : CS := (cSeq (cAsg 3 (c2 gIdx (cLst [(cK (.s [97])), (cK (.s [97, 98])), (cK (.s [97, 98])), (cK (.s [97, 98, 99])), (cK (.s [32, 126, 33, 38, 98, 122, 65, 90, 48, 57]))]) (cCall q_mixed [(cV 0), (cV 1), (cK (.i 5))])))
    (cSeq (cAsg 4 (cCall q_mixed [(cV 0), (c2 gAdd (cV 1) (cK (.i 1))), (c2 gPow (cK (.i 10)) (cK (.i 9)))]))
    (cSeq (cAsg 5 (cK (.s [])))
    (cSeq (cFor (iR1 (cCall q_mixed [(cV 0), (c2 gAdd (cV 1) (cK (.i 2))), (c2 gAdd (cV 2) (cK (.i 1)))])) (tgN 6) b1_q_text)
    (cRetV 5)))))
def q_text : List PV → Option ER := fnD 3 8 b_q_text
def b_q_key : CS := (cSeq (cAsg 2 (c2 gIdx (cLst [(cK (.i 1)), (cK (.i 2)), (cK (.i 7)), (cK (.i 97)), (cK (.i 997)), (cK (.i 999))]) (cCall q_mixed [(cV 0), (cV 1), (cK (.i 6))])))
    (cSeq (cAsg 3 (c2 gIdx (cLst [(cK (.i 1)), (cK (.i 2)), (cK (.i 3)), (cK (.i 31)), (cK (.i 256)), (cK (.i 999))]) (cCall q_mixed [(cV 0), (c2 gAdd (cV 1) (cK (.i 1))), (cK (.i 6))])))
    (cRet (cTup [(cV 2), (cV 3), (c2 gIdx (cLst [(cK (.i 1)), (cK (.i 2)), (cK (.i 5)), (cK (.i 101)), (cK (.i 9973)), (cK (.i 99999))]) (cCall q_mixed [(cV 0), (c2 gAdd (cV 1) (cK (.i 2))), (cK (.i 6))]))]))))
def q_key : List PV → Option ER := fnD 2 4 b_q_key
def cellAt (ns : List Int) (k : Int) : Int := if k < ns.length then ns.getD k.toNat 0 else if ns = [] then 0 else (ns.getD (k % ns.length).toNat 0) * 31 + k
theorem q_cell_at_eq (ns : List Int) (k : Int) (hk : 0 ≤ k) : q_cell_at [.z ns, .i k] = some (.d (.i (cellAt ns k))) := by
  unfold q_cell_at
  rw [fnD2]
  simp [b_q_cell_at]
  unfold cellAt
  by_cases h : k < ns.length
  · simp [h, atI_nn hk]
    rw [List.getElem?_eq_getElem (by omega)]
    simp
  · simp [h]
    by_cases hn : ns = []
    · simp [hn]
    · have he : ns.isEmpty = false := by simpa using hn
      have hl : 0 < ns.length := List.length_pos_iff.mpr hn
      have hl' : (0 : Int) < ns.length := by omega
      have h1 := Int.emod_nonneg k (b := (ns.length : Int)) (by omega)
      have h2 := Int.emod_lt_of_pos k hl'
      simp [hn, he, hl, atI_nn h1]
      rw [List.getElem?_eq_getElem (by omega)]
      simp [gMul_r]
def drawn (ns : List Int) (k : Int) : Int := (cellAt ns k + 7919 * k + 1) * 48271 % 2147483647
def mixed (ns : List Int) (k many : Int) : Int := (drawn ns k * drawn ns k + 7 * drawn ns k + k) % 2147483629 % many
theorem mixed_nn {ns : List Int} {k many : Int} (hm : 0 < many) : 0 ≤ mixed ns k many ∧ mixed ns k many < many :=
  ⟨Int.emod_nonneg _ (by omega), Int.emod_lt_of_pos _ hm⟩
theorem q_mixed_eq (ns : List Int) {k many : Int} (hk : 0 ≤ k) (hm : 0 < many) : q_mixed [.z ns, .i k, .i many] = some (.d (.i (mixed ns k many))) := by
  unfold q_mixed
  rw [fnD3]
  have h0 : 0 ≤ drawn ns k := Int.emod_nonneg _ (by omega)
  have h1 : drawn ns k < 2147483647 := Int.emod_lt_of_pos _ (by omega)
  have e : (cellAt ns k + 7919 * k + 1) * 48271 % 2147483647 = drawn ns k := rfl
  simp [b_q_mixed, q_cell_at_eq ns k hk, gMul_l, gMul_r, e]
  rw [gMul_l (by omega)]
  simp [hm]
  rfl
/-! ### items of written lists -/
theorem idx_i {l : List Int} {i : Int} (h0 : 0 ≤ i) (h1 : i < l.length) : gIdx (.l (l.map .i)) (.i i) = some (.d (.i (l.getD i.toNat 0))) := by
  rw [gIdx_l, atI_nn h0, List.getElem?_map, List.getElem?_eq_getElem (by omega)]
  simp [List.getD_eq_getElem?_getD, List.getElem?_eq_getElem (show i.toNat < l.length by omega)]
theorem idx_s {l : List (List Nat)} {i : Int} (h0 : 0 ≤ i) (h1 : i < l.length) : gIdx (.l (l.map .s)) (.i i) = some (.d (.s (l.getD i.toNat []))) := by
  rw [gIdx_l, atI_nn h0, List.getElem?_map, List.getElem?_eq_getElem (by omega)]
  simp [List.getD_eq_getElem?_getD, List.getElem?_eq_getElem (show i.toNat < l.length by omega)]
theorem idx6 {a b c d e f i : Int} (h0 : 0 ≤ i) (h1 : i < 6) : gIdx (.l [.i a, .i b, .i c, .i d, .i e, .i f]) (.i i) = some (.d (.i ([a, b, c, d, e, f].getD i.toNat 0))) := idx_i (l := [a, b, c, d, e, f]) h0 (by simpa using h1)
theorem idx5 {a b c d e : List Nat} {i : Int} (h0 : 0 ≤ i) (h1 : i < 5) : gIdx (.l [.s a, .s b, .s c, .s d, .s e]) (.i i) = some (.d (.s ([a, b, c, d, e].getD i.toNat []))) := idx_s (l := [a, b, c, d, e]) h0 (by simpa using h1)
theorem idx_c {cs : List Nat} {i : Int} (h0 : 0 ≤ i) (h1 : i < cs.length) (hb : cs.length ≤ big) : gIdx (.s cs) (.i i) = some (.d (.s [cs.getD i.toNat 0])) := by
  rw [gIdx_s, if_pos hb, atI_nn h0, List.getElem?_eq_getElem (by omega)]
  simp [List.getD_eq_getElem?_getD, List.getElem?_eq_getElem (show i.toNat < cs.length by omega)]
/-! ### texts -/
def signs (i : Int) : List Nat := [[97], [97, 98], [97, 98], [97, 98, 99], [32, 126, 33, 38, 98, 122, 65, 90, 48, 57]].getD i.toNat []
theorem signs_len {i : Int} (h0 : 0 ≤ i) (h1 : i < 5) : 1 ≤ (signs i).length ∧ (signs i).length ≤ 10 := by
  have : i = 0 ∨ i = 1 ∨ i = 2 ∨ i = 3 ∨ i = 4 := by omega
  rcases this with h | h | h | h | h <;> subst h <;> decide
/-- a sign of a text -/
def isSign (c : Nat) : Bool := decide (32 ≤ c) && decide (c ≤ 126) && decide (c ≠ 37)
theorem signs_ok {i : Int} (h0 : 0 ≤ i) (h1 : i < 5) : (signs i).all isSign = true := by
  have : i = 0 ∨ i = 1 ∨ i = 2 ∨ i = 3 ∨ i = 4 := by omega
  rcases this with h | h | h | h | h <;> subst h <;> decide
theorem idxT {i : Int} (h0 : 0 ≤ i) (h1 : i < 5) : gIdx (.l [.s [97], .s [97, 98], .s [97, 98], .s [97, 98, 99], .s [32, 126, 33, 38, 98, 122, 65, 90, 48, 57]]) (.i i) = some (.d (.s (signs i))) := idx5 h0 h1
def drawT (seed k : Int) : Int := (seed + 7919 * k * k + 104729 * k) * 48271 % 2147483647
def signAt (ns : List Int) (at_ : Int) (k : Nat) : Nat :=
  (signs (mixed ns at_ 5)).getD (drawT (mixed ns (at_ + 1) 1000000000) k * (drawT (mixed ns (at_ + 1) 1000000000) k + 3) % 2147483629 / 7 % (signs (mixed ns at_ 5)).length).toNat 0
def text (ns : List Int) (at_ most : Int) : List Nat := (List.range (mixed ns (at_ + 2) (most + 1)).toNat).map (signAt ns at_)
theorem text_len {ns : List Int} {at_ most : Int} (hm : 0 ≤ most) : (text ns at_ most).length ≤ most.toNat := by
  have := mixed_nn (ns := ns) (k := at_ + 2) (many := most + 1) (by omega)
  unfold text
  simp
  omega
theorem text_ok {ns : List Int} {at_ most : Int} : (text ns at_ most).all isSign = true := by
  unfold text
  rw [List.all_map, List.all_eq_true]
  intro k _
  have h5 := mixed_nn (ns := ns) (k := at_) (many := 5) (by omega)
  have hl := signs_len h5.1 h5.2
  have ho := List.all_eq_true.mp (signs_ok h5.1 h5.2)
  show isSign (signAt ns at_ k) = true
  unfold signAt
  have hlt : (drawT (mixed ns (at_ + 1) 1000000000) k * (drawT (mixed ns (at_ + 1) 1000000000) k + 3) % 2147483629 / 7 % (signs (mixed ns at_ 5)).length).toNat < (signs (mixed ns at_ 5)).length := by
    have := Int.emod_nonneg (drawT (mixed ns (at_ + 1) 1000000000) k * (drawT (mixed ns (at_ + 1) 1000000000) k + 3) % 2147483629 / 7) (b := ((signs (mixed ns at_ 5)).length : Int)) (by omega)
    have := Int.emod_lt_of_pos (drawT (mixed ns (at_ + 1) 1000000000) k * (drawT (mixed ns (at_ + 1) 1000000000) k + 3) % 2147483629 / 7) (show (0 : Int) < ((signs (mixed ns at_ 5)).length : Int) by omega)
    omega
  rw [List.getD_eq_getElem?_getD, List.getElem?_eq_getElem hlt]
  exact ho _ (List.getElem_mem hlt)
theorem pow_10_9 : gPow (.i 10) (.i 9) = some (.d (.i 1000000000)) := by
  rw [gPow_i, if_pos (by unfold CPow; decide)]
  rfl
theorem text_turn {s0 s1 s2 b : Sl1} {sg cs : List Nat} {seed k : Int} (hk : 0 ≤ k ∧ k < 2000) (hs : 0 < sg.length ∧ sg.length ≤ 10) (hc : cs.length ≤ 2000) :
    b1_q_text [s0, s1, s2, .d (.s sg), .d (.i seed), .d (.s cs), .d (.i k), b] =
      some (.nx [s0, s1, s2, .d (.s sg), .d (.i seed), .d (.s (cs ++ [sg.getD (drawT seed k * (drawT seed k + 3) % 2147483629 / 7 % sg.length).toNat 0])), .d (.i k), .d (.i (drawT seed k))]) := by
  have hd0 : 0 ≤ drawT seed k := Int.emod_nonneg _ (by omega)
  have hd1 : drawT seed k < 2147483647 := Int.emod_lt_of_pos _ (by omega)
  have ed : (seed + 7919 * k * k + 104729 * k) * 48271 % 2147483647 = drawT seed k := by rw [drawT]
  have hi0 := Int.emod_nonneg (drawT seed k * (drawT seed k + 3) % 2147483629 / 7) (b := (sg.length : Int)) (by omega)
  have hi1 := Int.emod_lt_of_pos (drawT seed k * (drawT seed k + 3) % 2147483629 / 7) (show (0 : Int) < sg.length by omega)
  generalize hd : drawT seed k = d at *
  simp [-gIdx_s, b1_q_text, gMul_l, gMul_r, gMul_r (n := 7919 * k) (m := k) (by omega), gMul_l (n := d) (m := d + 3) (by omega), ed, hs.1, show sg.length ≤ big by unfold big; omega, idx_c hi0 hi1 (by unfold big; omega), show cs.length + 1 ≤ big by unfold big; omega]
theorem q_text_eq (ns : List Int) {at_ most : Int} (ha : 0 ≤ at_) (hm : 0 ≤ most) (hm2 : most ≤ 1000) : q_text [.z ns, .i at_, .i most] = some (.d (.s (text ns at_ most))) := by
  unfold q_text
  rw [fnD3]
  have h5 := mixed_nn (ns := ns) (k := at_) (many := 5) (by omega)
  have hn := mixed_nn (ns := ns) (k := at_ + 2) (many := most + 1) (by omega)
  have hl := signs_len h5.1 h5.2
  simp [b_q_text, q_mixed_eq ns ha (show (0 : Int) < 5 by decide), q_mixed_eq ns (show 0 ≤ at_ + 1 by omega) (show (0 : Int) < 1000000000 by decide), q_mixed_eq ns (show 0 ≤ at_ + 2 by omega) (show (0 : Int) < most + 1 by omega),
    pow_10_9, idxT h5.1 h5.2, big, show (mixed ns (at_ + 2) (most + 1)).natAbs < lim by unfold lim; omega]
  have key := forGo_inv (tg := tgN 6) (s := b1_q_text) (m := fun k : Nat => PV.i (0 + (k : Nat))) (L := List.range (mixed ns (at_ + 2) (most + 1)).toNat)
    (ρ := [.d (.z ns), .d (.i at_), .d (.i most), .d (.s (signs (mixed ns at_ 5))), .d (.i (mixed ns (at_ + 1) 1000000000)), .d (.s []), .u, .u])
    (S := fun pre ρ => ∃ a b, ρ = [.d (.z ns), .d (.i at_), .d (.i most), .d (.s (signs (mixed ns at_ 5))), .d (.i (mixed ns (at_ + 1) 1000000000)), .d (.s (pre.map (signAt ns at_))), a, b])
    ⟨.u, .u, rfl⟩ (by
    rintro pre k post hL ρ1 ⟨a, b, rfl⟩
    have hk : pre.length + 1 ≤ 1001 := by
      have := congrArg List.length hL
      simp at this
      omega
    have hkk : k < 1001 := by
      have : k ∈ List.range (mixed ns (at_ + 2) (most + 1)).toNat := by rw [hL]; simp
      have := List.mem_range.mp this
      omega
    simp
    rw [text_turn (by omega) (by omega) (by simp; omega)]
    simp [signAt])
  obtain ⟨ρ', e, a, b, rfl⟩ := key
  rw [upTo_map, e]
  simp [text]
/-! ### keys -/
def key0 (ns : List Int) (at_ : Int) : Int := [1, 2, 7, 97, 997, 999].getD (mixed ns at_ 6).toNat 0
def key1 (ns : List Int) (at_ : Int) : Int := [1, 2, 3, 31, 256, 999].getD (mixed ns (at_ + 1) 6).toNat 0
def key2 (ns : List Int) (at_ : Int) : Int := [1, 2, 5, 101, 9973, 99999].getD (mixed ns (at_ + 2) 6).toNat 0
theorem pick6 {a b c d e f : Int} {m : Int} (h0 : 0 ≤ m) (h1 : m < 6) {P : Int → Prop} (ha : P a) (hb : P b) (hc : P c) (hd : P d) (he : P e) (hf : P f) : P ([a, b, c, d, e, f].getD m.toNat 0) := by
  have : m = 0 ∨ m = 1 ∨ m = 2 ∨ m = 3 ∨ m = 4 ∨ m = 5 := by omega
  rcases this with h | h | h | h | h | h <;> subst h <;> assumption
theorem key0_ok (ns : List Int) (at_ : Int) : 1 ≤ key0 ns at_ ∧ key0 ns at_ ≤ 999 := by
  have h := mixed_nn (ns := ns) (k := at_) (many := 6) (by omega)
  exact pick6 (P := fun x => 1 ≤ x ∧ x ≤ 999) h.1 h.2 (by decide) (by decide) (by decide) (by decide) (by decide) (by decide)
theorem key1_ok (ns : List Int) (at_ : Int) : 1 ≤ key1 ns at_ ∧ key1 ns at_ ≤ 999 := by
  have h := mixed_nn (ns := ns) (k := at_ + 1) (many := 6) (by omega)
  exact pick6 (P := fun x => 1 ≤ x ∧ x ≤ 999) h.1 h.2 (by decide) (by decide) (by decide) (by decide) (by decide) (by decide)
theorem key2_ok (ns : List Int) (at_ : Int) : 1 ≤ key2 ns at_ ∧ key2 ns at_ ≤ 99999 := by
  have h := mixed_nn (ns := ns) (k := at_ + 2) (many := 6) (by omega)
  exact pick6 (P := fun x => 1 ≤ x ∧ x ≤ 99999) h.1 h.2 (by decide) (by decide) (by decide) (by decide) (by decide) (by decide)
theorem q_key_eq (ns : List Int) {at_ : Int} (ha : 0 ≤ at_) : q_key [.z ns, .i at_] = some (.d (.t [.i (key0 ns at_), .i (key1 ns at_), .i (key2 ns at_)])) := by
  unfold q_key
  rw [fnD2]
  have h1 := mixed_nn (ns := ns) (k := at_) (many := 6) (by omega)
  have h2 := mixed_nn (ns := ns) (k := at_ + 1) (many := 6) (by omega)
  have h3 := mixed_nn (ns := ns) (k := at_ + 2) (many := 6) (by omega)
  simp only [key0, key1, key2]
  simp [-gIdx_l, -List.getD_eq_getElem?_getD, b_q_key, q_mixed_eq ns ha (show (0 : Int) < 6 by decide), q_mixed_eq ns (show 0 ≤ at_ + 1 by omega) (show (0 : Int) < 6 by decide), q_mixed_eq ns (show 0 ≤ at_ + 2 by omega) (show (0 : Int) < 6 by decide),
    idx6 h1.1 h1.2, idx6 h2.1 h2.2, idx6 h3.1 h3.2, big]
end DD
/-! texts, keys and sums -/
namespace DD
open PySem PySem.Spec L2
def b_p_is_whole : CS := (cRet (cAnd (c1 (gIs "int") (cV 0)) (cNot (c1 (gIs "bool") (cV 0)))))
def p_is_whole : List PV → Option ER := fnD 1 1 b_p_is_whole
def b_p_between : CS := (cRet (cAnd (cCall p_is_whole [(cV 0)]) (cChain gLe gLe (cV 1) (cV 0) (cV 2))))
def p_between : List PV → Option ER := fnD 3 3 b_p_between
def b_p_worth : CS := (cRet (c1 gOrd (cV 0)))
def p_worth : List PV → Option ER := fnD 1 1 b_p_worth
def b1_p_is_text : CF := (cAnd (cChain gLe gLe (cK (.i 32)) (cCall p_worth [(cV 3)]) (cK (.i 126))) (c2 gNe (cCall p_worth [(cV 3)]) (cK (.i 37))))
def b_p_is_text : CS := (cSeq (cIf (cOr (cNot (c1 (gIs "str") (cV 0))) (cNot (cChain gLe gLe (cV 1) (c1 gLen (cV 0)) (cV 2))))
    (cRet (cK (.b false)))
    cNext)
    (cRet (c1 gAll (cLc [3] (iS (cV 0)) (tgN 3) cYes b1_p_is_text))))
def p_is_text : List PV → Option ER := fnD 3 4 b_p_is_text
def b_p_need_text : CS := (cIf (cNot (cCall p_is_text [(cV 0), (cK (.i 0)), (cK (.i 2000))]))
    (cRaise 1)
    cNext)
def p_need_text : List PV → Option ER := fnD 1 1 b_p_need_text
def b_p_need_key : CS := (cSeq (cIf (cOr (cNot (c1 (gIs "tuple") (cV 0))) (c2 gNe (c1 gLen (cV 0)) (cK (.i 3))))
    (cRaise 2)
    cNext)
    (cIf (cOr (cNot (cCall p_between [(c2 gIdx (cV 0) (cK (.i 0))), (cK (.i 1)), (cK (.i 999))])) (cOr (cNot (cCall p_between [(c2 gIdx (cV 0) (cK (.i 1))), (cK (.i 1)), (cK (.i 999))])) (cNot (cCall p_between [(c2 gIdx (cV 0) (cK (.i 2))), (cK (.i 1)), (cK (.i 99999))]))))
    (cRaise 2)
    cNext))
def p_need_key : List PV → Option ER := fnD 1 1 b_p_need_key
def b1_p_first_of : CS := (cSeq (cAsg 2 (c2 gAdd (cV 2) (cCall p_worth [(cV 4)])))
    (cAsg 3 (c2 gAdd (cV 3) (cV 2))))
def b_p_first_of : CS := (cSeq (cAsg 2 (cK (.i 0)))
    (cSeq (cAsg 3 (cK (.i 0)))
    (cSeq (cFor (iS (cV 1)) (tgN 4) b1_p_first_of)
    (cRet (cTup [(c2 gMod (cV 2) (c2 gIdx (cV 0) (cK (.i 0)))), (c2 gMod (cV 3) (c2 gIdx (cV 0) (cK (.i 0))))])))))
def p_first_of : List PV → Option ER := fnD 2 5 b_p_first_of
def b_p_first_sum : CS := (cSeq (cDrop (cCall p_need_key [(cV 0)]))
    (cSeq (cDrop (cCall p_need_text [(cV 1)]))
    (cRet (cCall p_first_of [(cV 0), (cV 1)]))))
def p_first_sum : List PV → Option ER := fnD 2 2 b_p_first_sum
def b1_p_number_of : CS := (cAsg 3 (c2 gMod (c2 gAdd (c2 gMul (cV 3) (cV 1)) (cCall p_worth [(cV 4)])) (cV 2)))
def b_p_number_of : CS := (cSeq (cAsg 3 (cK (.i 0)))
    (cSeq (cFor (iS (cV 0)) (tgN 4) b1_p_number_of)
    (cRetV 3)))
def p_number_of : List PV → Option ER := fnD 3 5 b_p_number_of
def b_p_second_sum : CS := (cSeq (cDrop (cCall p_need_key [(cV 0)]))
    (cSeq (cDrop (cCall p_need_text [(cV 1)]))
    (cRet (cCall p_number_of [(cV 1), (c2 gIdx (cV 0) (cK (.i 1))), (c2 gIdx (cV 0) (cK (.i 2)))]))))
def p_second_sum : List PV → Option ER := fnD 2 2 b_p_second_sum
def b_p_whole_of : CS := (cRet (cTup [(c1 gLen (cV 1)), (cCall p_number_of [(cV 1), (c2 gAdd (c2 gIdx (cV 0) (cK (.i 1))) (cK (.i 1))), (c2 gIdx (cV 0) (cK (.i 2)))])]))
def p_whole_of : List PV → Option ER := fnD 2 2 b_p_whole_of
def b_p_whole_sum : CS := (cSeq (cDrop (cCall p_need_key [(cV 0)]))
    (cSeq (cDrop (cCall p_need_text [(cV 1)]))
    (cRet (cCall p_whole_of [(cV 0), (cV 1)]))))
def p_whole_sum : List PV → Option ER := fnD 2 2 b_p_whole_sum
def b_p_next_sum : CS := (cSeq (cAsg 5 (c2 gAdd (c2 gSub (c2 gIdx (cV 1) (cK (.i 0))) (cCall p_worth [(cV 3)])) (cCall p_worth [(cV 4)])))
    (cSeq (cAsg 6 (c2 gAdd (c2 gSub (c2 gIdx (cV 1) (cK (.i 1))) (c2 gMul (cV 2) (cCall p_worth [(cV 3)]))) (cV 5)))
    (cRet (cTup [(c2 gMod (cV 5) (c2 gIdx (cV 0) (cK (.i 0)))), (c2 gMod (cV 6) (c2 gIdx (cV 0) (cK (.i 0))))]))))
def p_next_sum : List PV → Option ER := fnD 5 7 b_p_next_sum
def b_p_rolled : CS := (cSeq (cDrop (cCall p_need_key [(cV 0)]))
    (cRet (cCall p_next_sum [(cV 0), (cV 1), (cV 2), (cV 3), (cV 4)])))
def p_rolled : List PV → Option ER := fnD 5 5 b_p_rolled
def b1_q_first : CF := (c1 gOrd (cV 4))
def b2_q_first : CF := (c2 gMul (c2 gSub (c1 gLen (cV 1)) (cV 5)) (c1 gOrd (c2 gIdx (cV 1) (cV 5))))
def b_q_first : CS := (cSeq (cAsg 2 (c1 gSum (cLc [4] (iS (cV 1)) (tgN 4) cYes b1_q_first)))
    (cSeq (cAsg 3 (c1 gSum (cLc [5] (iR1 (c1 gLen (cV 1))) (tgN 5) cYes b2_q_first)))
    (cRet (cTup [(c2 gMod (cV 2) (c2 gIdx (cV 0) (cK (.i 0)))), (c2 gMod (cV 3) (c2 gIdx (cV 0) (cK (.i 0))))]))))
def q_first : List PV → Option ER := fnD 2 6 b_q_first
def b1_q_second : CS := (cAsg 3 (c2 gAdd (c2 gMul (cV 3) (cV 1)) (c1 gOrd (cV 4))))
def b_q_second : CS := (cSeq (cAsg 3 (cK (.i 0)))
    (cSeq (cFor (iS (cV 0)) (tgN 4) b1_q_second)
    (cRet (c2 gMod (cV 3) (cV 2)))))
def q_second : List PV → Option ER := fnD 3 5 b_q_second
def b_q_card : CS := (cRet (cTup [(cCall q_first [(cV 0), (cV 1)]), (cCall q_second [(cV 1), (c2 gIdx (cV 0) (cK (.i 1))), (c2 gIdx (cV 0) (cK (.i 2)))])]))
def q_card : List PV → Option ER := fnD 2 2 b_q_card
def b_q_whole_sum : CS := (cRet (cTup [(c1 gLen (cV 1)), (cCall q_second [(cV 1), (c2 gAdd (c2 gIdx (cV 0) (cK (.i 1))) (cK (.i 1))), (c2 gIdx (cV 0) (cK (.i 2)))])]))
def q_whole_sum : List PV → Option ER := fnD 2 2 b_q_whole_sum
def b_q_whole : CS := (cRet (cAnd (c1 (gIs "int") (cV 0)) (cNot (c1 (gIs "bool") (cV 0)))))
def q_whole : List PV → Option ER := fnD 1 1 b_q_whole
theorem intsOf_map' {α : Type} (g : α → Int) (L : List α) : intsOf (L.map fun a => .i (g a)) = some (L.map g) := by
  have := intsOf_map (L.map g)
  rwa [List.map_map] at this
theorem blsOf_map' {α : Type} (g : α → Bool) (L : List α) : blsOf (L.map fun a => .b (g a)) = some (L.map g) := by
  have := blsOf_map (L.map g)
  rwa [List.map_map] at this
theorem all_id {α : Type} (g : α → Bool) (L : List α) : (L.map g).all id = L.all g := by rw [List.all_map]; rfl
@[simp] theorem p_worth_eq (c : Nat) : p_worth [.s [c]] = some (.d (.i c)) := by
  unfold p_worth
  rw [fnD1]
  simp [b_p_worth]
theorem p_is_whole_eq (x : PV) : p_is_whole [x] = some (.d (.b (isI x && !isB x))) := by
  unfold p_is_whole
  rw [fnD1]
  cases x <;> simp [b_p_is_whole, isI, isB]
@[simp] theorem p_is_whole_i (n : Int) : p_is_whole [.i n] = some (.d (.b true)) := p_is_whole_eq _
theorem p_between_eq (x lo hi : Int) : p_between [.i x, .i lo, .i hi] = some (.d (.b (decide (lo ≤ x) && decide (x ≤ hi)))) := by
  unfold p_between
  rw [fnD3]
  simp [b_p_between]
  by_cases h : lo ≤ x <;> simp [h]
theorem p_is_text_eq {cs : List Nat} {a b : Int} (hb : cs.length ≤ big) : p_is_text [.s cs, .i a, .i b] = some (.d (.b (decide (a ≤ cs.length) && decide (cs.length ≤ b) && cs.all isSign))) := by
  unfold p_is_text
  rw [fnD3]
  simp [b_p_is_text, isS, hb]
  by_cases h1 : a ≤ cs.length
  · simp [h1]
    by_cases h2 : (cs.length : Int) ≤ b
    · simp [h2]
      rw [lcGo_map (m := fun c : Nat => PV.s [c]) (w := fun c => PV.b (isSign c))]
      · simp [blsOf_map', all_id, hb]
      · intro c _
        refine ⟨_, rfl, rfl, ?_⟩
        unfold isSign
        simp [b1_p_is_text]
        by_cases g1 : 32 ≤ c
        · by_cases g2 : c ≤ 126
          · simp [g1, g2, show (32 : Int) ≤ c by omega, show (c : Int) ≤ 126 by omega]
            by_cases g3 : c = 37 <;> simp [g3]
            omega
          · simp [g1, g2, show (32 : Int) ≤ c by omega, show ¬ (c : Int) ≤ 126 by omega]
        · simp [g1, show ¬ (32 : Int) ≤ c by omega]
    · simp [h2]
  · simp [h1]
/-- a text of signs -/
def okText (cs : List Nat) : Prop := cs.length ≤ 2000 ∧ cs.all isSign = true
theorem p_need_text_ok {cs : List Nat} (h : okText cs) : p_need_text [.s cs] = some (.d .n) := by
  unfold p_need_text
  rw [fnD1]
  simp [b_p_need_text, p_is_text_eq (show cs.length ≤ big by have := h.1; unfold big; omega), h.2, show (cs.length : Int) ≤ 2000 by have := h.1; omega, show (0 : Int) ≤ cs.length by omega]
/-- a key -/
abbrev keyD (few times many : Int) : PV := .t [.i few, .i times, .i many]
structure OkKey (few times many : Int) : Prop where
  f : 1 ≤ few ∧ few ≤ 999
  t : 1 ≤ times ∧ times ≤ 999
  m : 1 ≤ many ∧ many ≤ 99999
theorem p_need_key_ok {few times many : Int} (h : OkKey few times many) : p_need_key [keyD few times many] = some (.d .n) := by
  unfold p_need_key
  rw [fnD1]
  simp [b_p_need_key, p_between_eq, isU, h.f, h.t, h.m]
/-! ### the first sum -/
def sumC (cs : List Nat) : Int := (cs.map fun (c : Nat) => (c : Int)).sum
def leanC : List Nat → Int
  | [] => 0
  | c :: r => ((r.length : Int) + 1) * c + leanC r
theorem sumC_snoc (cs : List Nat) (c : Nat) : sumC (cs ++ [c]) = sumC cs + c := by simp [sumC]
theorem leanC_snoc : ∀ (cs : List Nat) (c : Nat), leanC (cs ++ [c]) = leanC cs + (sumC cs + c)
  | [], c => by simp [leanC, sumC]
  | a :: cs, c => by
    have ih := leanC_snoc cs c
    simp only [List.cons_append, leanC, ih, List.length_append, List.length_singleton, sumC, List.map_cons, List.sum_cons]
    have : (((cs.length + 1 : Nat) : Int) + 1) * a = ((cs.length : Int) + 1) * a + a := by
      rw [show ((cs.length + 1 : Nat) : Int) + 1 = ((cs.length : Int) + 1) + 1 by omega, Int.add_mul]
      omega
    omega
abbrev firstD (few : Int) (cs : List Nat) : PV := .t [.i (sumC cs % few), .i (leanC cs % few)]
theorem p_first_of_eq {few times many : Int} (h : 0 < few) (cs : List Nat) : p_first_of [keyD few times many, .s cs] = some (.d (firstD few cs)) := by
  unfold p_first_of
  rw [fnD2]
  simp [b_p_first_of]
  have key := forGo_inv (tg := tgN 4) (s := b1_p_first_of) (m := fun c : Nat => PV.s [c]) (L := cs) (ρ := [.d (keyD few times many), .d (.s cs), .d (.i 0), .d (.i 0), .u])
    (S := fun pre ρ => ∃ a, ρ = [.d (keyD few times many), .d (.s cs), .d (.i (sumC pre)), .d (.i (leanC pre)), a])
    ⟨.u, rfl⟩ (by
    rintro pre c post hL ρ1 ⟨a, rfl⟩
    simp [b1_p_first_of, sumC_snoc, leanC_snoc])
  obtain ⟨ρ', e, a, rfl⟩ := key
  rw [e]
  simp [h, big]
/-! ### the second sum -/
def numC (times many : Int) (cs : List Nat) : Int := cs.foldl (fun (m : Int) (c : Nat) => (m * times + (c : Int)) % many) 0
def bigN (times : Int) (cs : List Nat) : Int := cs.foldl (fun (m : Int) (c : Nat) => m * times + (c : Int)) 0
theorem numC_eq (times many : Int) (cs : List Nat) : numC times many cs = bigN times cs % many := by
  have key : ∀ (cs : List Nat) (a b : Int), a = b % many → cs.foldl (fun (m : Int) (c : Nat) => (m * times + (c : Int)) % many) a = (cs.foldl (fun (m : Int) (c : Nat) => m * times + (c : Int)) b) % many := by
    intro cs
    induction cs with
    | nil => intro a b h; exact h
    | cons c r ih =>
      intro a b h
      refine ih _ _ ?_
      rw [h]
      simp [Int.add_emod, Int.mul_emod]
  exact key cs 0 0 (by simp)
theorem p_number_of_eq {times many : Int} (ht : 0 ≤ times ∧ times ≤ 1000) (hm : 0 < many) (cs : List Nat) : p_number_of [.s cs, .i times, .i many] = some (.d (.i (numC times many cs))) := by
  unfold p_number_of
  rw [fnD3]
  simp [b_p_number_of]
  have key := forGo_inv (tg := tgN 4) (s := b1_p_number_of) (m := fun c : Nat => PV.s [c]) (L := cs) (ρ := [.d (.s cs), .d (.i times), .d (.i many), .d (.i 0), .u])
    (S := fun pre ρ => ∃ a, ρ = [.d (.s cs), .d (.i times), .d (.i many), .d (.i (numC times many pre)), a])
    ⟨.u, rfl⟩ (by
    rintro pre c post hL ρ1 ⟨a, rfl⟩
    simp [b1_p_number_of, gMul_r (m := times) (by omega), hm, numC])
  obtain ⟨ρ', e, a, rfl⟩ := key
  rw [e]
  simp
theorem q_second_eq {times many : Int} (ht : 0 ≤ times ∧ times ≤ 1000) (hm : 0 < many) (cs : List Nat) : q_second [.s cs, .i times, .i many] = some (.d (.i (numC times many cs))) := by
  unfold q_second
  rw [fnD3]
  simp [b_q_second]
  have key := forGo_inv (tg := tgN 4) (s := b1_q_second) (m := fun c : Nat => PV.s [c]) (L := cs) (ρ := [.d (.s cs), .d (.i times), .d (.i many), .d (.i 0), .u])
    (S := fun pre ρ => ∃ a, ρ = [.d (.s cs), .d (.i times), .d (.i many), .d (.i (bigN times pre)), a])
    ⟨.u, rfl⟩ (by
    rintro pre c post hL ρ1 ⟨a, rfl⟩
    simp [b1_q_second, gMul_r (m := times) (by omega), bigN])
  obtain ⟨ρ', e, a, rfl⟩ := key
  rw [e]
  simp [hm, numC_eq]
/-! ### the law's own first sum -/
theorem lean_range : ∀ cs : List Nat, ((List.range cs.length).map fun (k : Nat) => ((cs.length : Int) - (k : Int)) * ((cs.getD k 0 : Nat) : Int)).sum = leanC cs
  | [] => by simp [leanC]
  | c :: r => by
    have ih := lean_range r
    rw [List.length_cons, List.range_succ_eq_map, List.map_cons, List.sum_cons, List.map_map]
    have e : ((fun (k : Nat) => (((r.length + 1 : Nat) : Int) - (k : Int)) * (((c :: r).getD k 0 : Nat) : Int)) ∘ Nat.succ) = fun (k : Nat) => ((r.length : Int) - (k : Int)) * ((r.getD k 0 : Nat) : Int) := by
      funext k
      simp only [Function.comp, List.getD_cons_succ]
      congr 1
      simp
      omega
    rw [e, ih]
    simp [leanC]
theorem q_first_eq {few times many : Int} (h : 0 < few) {cs : List Nat} (hl : cs.length ≤ 100000) : q_first [keyD few times many, .s cs] = some (.d (firstD few cs)) := by
  unfold q_first
  rw [fnD2]
  simp [b_q_first, show cs.length ≤ big by unfold big; omega]
  rw [lcGo_map (m := fun c : Nat => PV.s [c]) (w := fun c => PV.i c)]
  · simp [intsOf_map', show cs.length < lim by unfold lim; omega, upTo_map, show cs.length ≤ big by unfold big; omega]
    rw [lcGo_map (m := fun k : Nat => PV.i (k : Int)) (w := fun k : Nat => PV.i (((cs.length : Int) - (k : Int)) * ((cs.getD k 0 : Nat) : Int)))]
    · have := lean_range cs
      simp only [List.getD_eq_getElem?_getD] at this
      simp [intsOf_map', this, h, big, sumC]
    · intro k hk
      have hk := List.mem_range.mp hk
      refine ⟨_, rfl, rfl, ?_⟩
      simp [b2_q_first, show cs.length ≤ big by unfold big; omega, atI_nn (n := (k : Int)) (by omega), hk, gMul_l (n := (cs.length : Int) - k) (by omega)]
  · intro c _
    refine ⟨_, rfl, rfl, ?_⟩
    simp [b1_q_first]
/-! ### cards -/
abbrev cardD (few times many : Int) (cs : List Nat) : PV := .t [firstD few cs, .i (numC times many cs)]
theorem q_card_eq {few times many : Int} (h : OkKey few times many) {cs : List Nat} (hl : cs.length ≤ 100000) : q_card [keyD few times many, .s cs] = some (.d (cardD few times many cs)) := by
  unfold q_card
  rw [fnD2]
  have := h.f; have := h.t; have := h.m
  simp [b_q_card, q_first_eq (few := few) (by omega) hl, q_second_eq (times := times) (many := many) (by omega) (by omega), big]
abbrev wholeD (times many : Int) (cs : List Nat) : PV := .t [.i cs.length, .i (numC (times + 1) many cs)]
theorem q_whole_sum_eq {few times many : Int} (h : OkKey few times many) {cs : List Nat} (hl : cs.length ≤ 100000) : q_whole_sum [keyD few times many, .s cs] = some (.d (wholeD times many cs)) := by
  unfold q_whole_sum
  rw [fnD2]
  have := h.f; have := h.t; have := h.m
  simp [b_q_whole_sum, q_second_eq (times := times + 1) (many := many) (by omega) (by omega), big, show cs.length ≤ 16777216 by omega]
theorem p_whole_of_eq {few times many : Int} (h : OkKey few times many) {cs : List Nat} (hl : cs.length ≤ 100000) : p_whole_of [keyD few times many, .s cs] = some (.d (wholeD times many cs)) := by
  unfold p_whole_of
  rw [fnD2]
  have := h.f; have := h.t; have := h.m
  simp [b_p_whole_of, p_number_of_eq (times := times + 1) (many := many) (by omega) (by omega), big, show cs.length ≤ 16777216 by omega]
theorem p_first_sum_eq {few times many : Int} (h : OkKey few times many) {cs : List Nat} (hc : okText cs) : p_first_sum [keyD few times many, .s cs] = some (.d (firstD few cs)) := by
  unfold p_first_sum
  rw [fnD2]
  have := h.f
  simp [b_p_first_sum, p_need_key_ok h, p_need_text_ok hc, p_first_of_eq (few := few) (by omega)]
theorem p_second_sum_eq {few times many : Int} (h : OkKey few times many) {cs : List Nat} (hc : okText cs) : p_second_sum [keyD few times many, .s cs] = some (.d (.i (numC times many cs))) := by
  unfold p_second_sum
  rw [fnD2]
  have := h.t; have := h.m
  simp [b_p_second_sum, p_need_key_ok h, p_need_text_ok hc, p_number_of_eq (times := times) (many := many) (by omega) (by omega)]
theorem p_whole_sum_eq {few times many : Int} (h : OkKey few times many) {cs : List Nat} (hc : okText cs) : p_whole_sum [keyD few times many, .s cs] = some (.d (wholeD times many cs)) := by
  unfold p_whole_sum
  rw [fnD2]
  simp [b_p_whole_sum, p_need_key_ok h, p_need_text_ok hc, p_whole_of_eq h (show cs.length ≤ 100000 by have := hc.1; omega)]
theorem q_whole_eq (x : PV) : q_whole [x] = some (.d (.b (isI x && !isB x))) := by
  unfold q_whole
  rw [fnD1]
  cases x <;> simp [b_q_whole, isI, isB]
theorem key_ok (ns : List Int) (at_ : Int) : OkKey (key0 ns at_) (key1 ns at_) (key2 ns at_) := ⟨key0_ok ns at_, key1_ok ns at_, key2_ok ns at_⟩
theorem text_okT {ns : List Int} {at_ most : Int} (hm : 0 ≤ most) (hm2 : most ≤ 1000) : okText (text ns at_ most) := ⟨by have := text_len (ns := ns) (at_ := at_) hm; omega, text_ok⟩
end DD
/-! rolled on by one sign -/
namespace DD
open PySem PySem.Spec L2
theorem p_next_sum_eq {few times many : Int} (h : 0 < few) {a b n : Int} {c d : Nat} (hn : 0 ≤ n ∧ n ≤ 1000000) : p_next_sum [keyD few times many, .t [.i a, .i b], .i n, .s [c], .s [d]] = some (.d (.t [.i ((a - c + d) % few), .i ((b - n * c + (a - c + d)) % few)])) := by
  unfold p_next_sum
  rw [fnD5]
  simp [b_p_next_sum, gMul_l (n := n) (by omega), h, big]
theorem sum_roll (c : Nat) (r : List Nat) (d : Nat) : sumC (r ++ [d]) = sumC (c :: r) - c + d := by
  rw [sumC_snoc]
  simp [sumC]
  omega
theorem lean_roll (c : Nat) (r : List Nat) (d : Nat) : leanC (r ++ [d]) = leanC (c :: r) - ((r.length + 1 : Nat) : Int) * c + (sumC (c :: r) - c + d) := by
  rw [leanC_snoc, ← sum_roll, sumC_snoc]
  simp [leanC]
  omega
theorem roll_mod (few a b x y : Int) : (a % few - x + y) % few = (a - x + y) % few ∧ (b % few - x + (a % few + y)) % few = (b - x + (a + y)) % few := by
  constructor
  · rw [show a % few - x + y = a % few + (y - x) by omega, Int.emod_add_emod]
    congr 1
    omega
  · rw [show b % few - x + (a % few + y) = b % few + (a % few + (y - x)) by omega, Int.emod_add_emod, show b + (a % few + (y - x)) = a % few + (b + (y - x)) by omega, Int.emod_add_emod]
    congr 1
    omega
/-- one stretch further on -/
theorem next_first {few times many : Int} (h : 0 < few) {c d : Nat} {r : List Nat} {n : Int} (hn : n = ((r.length + 1 : Nat) : Int)) (hl : r.length ≤ 100000) :
    p_next_sum [keyD few times many, firstD few (c :: r), .i n, .s [c], .s [d]] = some (.d (firstD few (r ++ [d]))) := by
  subst hn
  rw [p_next_sum_eq h (by omega)]
  show _ = some (ER.d (PV.t [.i (sumC (r ++ [d]) % few), .i (leanC (r ++ [d]) % few)]))
  rw [lean_roll c r d, sum_roll c r d]
  have h1 := (roll_mod few (sumC (c :: r)) 0 c d).1
  have h2 := (roll_mod few (sumC (c :: r)) (leanC (c :: r)) (((r.length + 1 : Nat) : Int) * c) (d - c)).2
  rw [show sumC (c :: r) % few - c + d = sumC (c :: r) % few + (d - c) by omega] at h1 ⊢
  rw [show sumC (c :: r) - c + d = sumC (c :: r) + (d - c) by omega] at h1 ⊢
  rw [h1, h2]
/-- the stretch of a text at a place -/
def win (cs : List Nat) (p n : Nat) : List Nat := (cs.drop p).take n
theorem win_step {cs : List Nat} {p n : Nat} (h : p + n < cs.length) (hn : 0 < n) : ∃ r, win cs p n = cs[p] :: r ∧ win cs (p + 1) n = r ++ [cs[p + n]] ∧ r.length + 1 = n := by
  unfold win
  obtain ⟨m, rfl⟩ : ∃ m, n = m + 1 := ⟨n - 1, by omega⟩
  refine ⟨(cs.drop (p + 1)).take m, ?_, ?_, ?_⟩
  · rw [List.drop_eq_getElem_cons (show p < cs.length by omega), List.take_succ_cons]
  · rw [List.take_succ_eq_append_getElem (by simp; omega), List.getElem_drop]
    congr 3
    omega
  · simp
    omega
theorem win_ok {cs : List Nat} {p n : Nat} (h : okText cs) : okText (win cs p n) := by
  unfold win
  refine ⟨?_, ?_⟩
  · have := h.1
    simp
    omega
  · rw [List.all_eq_true]
    intro c hc
    exact List.all_eq_true.mp h.2 c (List.mem_of_mem_drop (List.mem_of_mem_take hc))
theorem win_length {cs : List Nat} {p n : Nat} (h : p + n ≤ cs.length) : (win cs p n).length = n := by
  unfold win
  simp
  omega
theorem cut_win {cs : List Nat} {a b : Int} (h0 : 0 ≤ a) (h1 : a ≤ b) : cutP cs (some a) (some b) = win cs a.toNat (b - a).toNat := by
  rw [cutP_nn h0 (by omega)]
  unfold win
  congr 1
  omega
theorem cut_win0 {cs : List Nat} {b : Int} (h1 : 0 ≤ b) : cutP cs none (some b) = win cs 0 b.toNat := by
  rw [cutP_0n h1]
  rfl
theorem p_rolled_eq {few times many : Int} (hk : OkKey few times many) {x y : PV} {n : Int} {c d : Nat} (h : p_next_sum [keyD few times many, x, .i n, .s [c], .s [d]] = some (.d y)) : p_rolled [keyD few times many, x, .i n, .s [c], .s [d]] = some (.d y) := by
  unfold p_rolled
  rw [fnD5]
  simp [b_p_rolled, p_need_key_ok hk, h]
theorem idx_cn {cs : List Nat} {i : Nat} (h1 : i < cs.length) (hb : cs.length ≤ big) : gIdx (.s cs) (.i i) = some (.d (.s [cs[i]])) := by
  rw [idx_c (by omega) (by omega) hb]
  simp [h1]
end DD
/-! cards of blocks -/
namespace DD
open PySem PySem.Spec L2
def b_p_need_size : CS := (cIf (cNot (cCall p_between [(cV 0), (cK (.i 1)), (cK (.i 200))]))
    (cRaise 3)
    cNext)
def p_need_size : List PV → Option ER := fnD 1 1 b_p_need_size
def b1_p_cards_of : CS := (cSeq (cAsg 5 (cSl (cV 2) (some (cV 4)) (some (c2 gAdd (cV 4) (cV 1)))))
    (cApp 3 (cTup [(cCall p_first_of [(cV 0), (cV 5)]), (cCall p_number_of [(cV 5), (c2 gIdx (cV 0) (cK (.i 1))), (c2 gIdx (cV 0) (cK (.i 2)))])])))
def b_p_cards_of : CS := (cSeq (cAsgM 3 (cLst []))
    (cSeq (cFor (iR3 (cK (.i 0)) (c2 gAdd (c2 gSub (c1 gLen (cV 2)) (cV 1)) (cK (.i 1))) (cV 1)) (tgN 4) b1_p_cards_of)
    (cRetV 3)))
def p_cards_of : List PV → Option ER := fnD 3 6 b_p_cards_of
def b_p_cards : CS := (cSeq (cDrop (cCall p_need_key [(cV 0)]))
    (cSeq (cDrop (cCall p_need_size [(cV 1)]))
    (cSeq (cDrop (cCall p_need_text [(cV 2)]))
    (cRet (cCall p_cards_of [(cV 0), (cV 1), (cV 2)])))))
def p_cards : List PV → Option ER := fnD 3 3 b_p_cards
def b1_q_known : CF := (cCall q_card [(cV 0), (cSl (cV 2) (some (c2 gMul (cV 1) (cV 3))) (some (c2 gAdd (c2 gMul (cV 1) (cV 3)) (cV 1))))])
def b_q_known : CS := (cRet (cLc [3] (iR1 (c2 gDiv (c1 gLen (cV 2)) (cV 1))) (tgN 3) cYes b1_q_known))
def q_known : List PV → Option ER := fnD 3 4 b_q_known
theorem p_need_size_ok {n : Int} (h : 1 ≤ n ∧ n ≤ 200) : p_need_size [.i n] = some (.d .n) := by
  unfold p_need_size
  rw [fnD1]
  simp [b_p_need_size, p_between_eq, h]
abbrev blockC (few times many : Int) (n : Nat) (cs : List Nat) (k : Nat) : PV := cardD few times many (win cs (k * n) n)
abbrev cardsC (few times many : Int) (n : Nat) (cs : List Nat) : List PV := (List.range (cs.length / n)).map (blockC few times many n cs)
theorem stepN_blocks {l n : Nat} (hn : 0 < n) : stepN 0 ((l : Int) - n + 1) n = l / n := by
  unfold stepN
  by_cases h : n ≤ l
  · rw [if_pos (by omega)]
    have e : (l : Int) - n + 1 - 0 - 1 = ((l - n : Nat) : Int) := by omega
    rw [e]
    have : ((l - n : Nat) : Int) / (n : Int) = (((l - n) / n : Nat) : Int) := by simp
    rw [this, Nat.div_eq_sub_div hn h]
    generalize (l - n) / n = k
    omega
  · rw [if_neg (by omega)]
    rw [Nat.div_eq_of_lt (by omega)]
theorem block_le {l n k : Nat} (hn : 0 < n) (h : k < l / n) : k * n + n ≤ l := by
  have h1 : (k + 1) * n ≤ l / n * n := Nat.mul_le_mul_right n h
  have h2 := Nat.div_mul_le_self l n
  rw [Nat.add_mul] at h1
  omega
theorem div_le_self' {l n : Nat} : l / n ≤ l := Nat.div_le_self l n
theorem cards_turn {few times many : Int} (hk : OkKey few times many) {n : Nat} (hn : 0 < n ∧ n ≤ 3000) {cs : List Nat} (hc : cs.length ≤ 100000) {k : Nat} (h : k < cs.length / n) {xs : List PV} (hx : xs.length < 1000000) {b : Sl1} :
    b1_p_cards_of [.d (keyD few times many), .d (.i n), .d (.s cs), .m xs, .d (.i ((k : Int) * n)), b] =
      some (.nx [.d (keyD few times many), .d (.i n), .d (.s cs), .m (xs ++ [blockC few times many n cs k]), .d (.i ((k : Int) * n)), .d (.s (win cs (k * n) n))]) := by
  have hf := hk.f; have ht := hk.t; have hm := hk.m
  have h0 : (0 : Int) ≤ (k : Int) * n := Int.mul_nonneg (by omega) (by omega)
  have hcut : cutP cs (some ((k : Int) * n)) (some ((k : Int) * n + n)) = win cs (k * n) n := by
    rw [cut_win h0 (by omega)]
    have : (k : Int) * n = ((k * n : Nat) : Int) := by simp
    rw [this]
    congr 1
    omega
  have hb : cs.length ≤ big := by unfold big; omega
  have hb2 : xs.length < big := by unfold big; omega
  simp [b1_p_cards_of, hb, hb2, hcut, p_first_of_eq (few := few) (times := times) (many := many) (by omega), p_number_of_eq (times := times) (many := many) (by omega) (by omega)]
theorem p_cards_of_eq {few times many : Int} (hk : OkKey few times many) {n : Nat} (hn : 0 < n ∧ n ≤ 3000) {cs : List Nat} (hc : cs.length ≤ 100000) :
    p_cards_of [keyD few times many, .i n, .s cs] = some (.f (cardsC few times many n cs)) := by
  unfold p_cards_of
  rw [fnD3]
  have hb : cs.length ≤ big := by unfold big; omega
  simp [b_p_cards_of, hb, show ((cs.length : Int) - n + 1).natAbs < 1073741824 by omega, show n < 1073741824 by omega, hn.1, stepN_blocks hn.1, steps]
  have key := forGo_inv (tg := tgN 4) (s := b1_p_cards_of) (m := fun k : Nat => PV.i ((k : Int) * (n : Int))) (L := List.range (cs.length / n))
    (ρ := [.d (keyD few times many), .d (.i n), .d (.s cs), .m [], .u, .u])
    (S := fun pre ρ => ∃ a b, ρ = [.d (keyD few times many), .d (.i n), .d (.s cs), .m (pre.map (blockC few times many n cs)), a, b])
    ⟨.u, .u, rfl⟩ (by
    rintro pre k post hL ρ1 ⟨a, b, rfl⟩
    obtain ⟨rfl, hlt⟩ := range_split hL
    have := div_le_self' (l := cs.length) (n := n)
    simp
    rw [cards_turn hk hn hc hlt (by simp; omega)]
    simp)
  obtain ⟨ρ', e, a, b, rfl⟩ := key
  rw [e]
  simp
theorem p_cards_eq {few times many : Int} (hk : OkKey few times many) {n : Nat} (hn : 0 < n ∧ n ≤ 200) {cs : List Nat} (hc : okText cs) :
    p_cards [keyD few times many, .i n, .s cs] = some (.f (cardsC few times many n cs)) := by
  unfold p_cards
  rw [fnD3]
  simp [b_p_cards, p_need_key_ok hk, p_need_size_ok (n := n) (by omega), p_need_text_ok hc, p_cards_of_eq hk (n := n) (by omega) (show cs.length ≤ 100000 by have := hc.1; omega)]
theorem q_known_eq {few times many : Int} (hk : OkKey few times many) {n : Nat} (hn : 0 < n ∧ n ≤ 3000) {cs : List Nat} (hc : cs.length ≤ 100000) :
    q_known [keyD few times many, .i n, .s cs] = some (.f (cardsC few times many n cs)) := by
  unfold q_known
  rw [fnD3]
  have hb : cs.length ≤ big := by unfold big; omega
  have hd := div_le_self' (l := cs.length) (n := n)
  have e : ((cs.length : Int) / (n : Int)) = ((cs.length / n : Nat) : Int) := by simp
  have hdb : cs.length / n < lim := by unfold lim; omega
  have hdb2 : cs.length / n ≤ big := by omega
  simp only [b_q_known, cRet_ap, cLc_ap, iR1_ap, c2_ap, c1_ap, cV_ap, List.getElem?_cons_zero, List.getElem?_cons_succ, rep1, e1_d, gLen_s, if_pos hb, gDiv_i, if_pos (show (0 : Int) < n ∧ (n : Int) < 1073741824 by omega), e, uR1_i, Int.natAbs_natCast, if_pos hdb, Int.toNat_natCast, upTo_map, List.length_map, List.length_range, if_pos hdb2]
  rw [lcGo_map (m := fun k : Nat => PV.i (0 + (k : Int))) (w := blockC few times many n cs)]
  · simp
  · intro k hk2
    have hlt := block_le hn.1 (List.mem_range.mp hk2)
    refine ⟨_, rfl, rfl, ?_⟩
    have hw : (win cs (k * n) n).length ≤ 100000 := by rw [win_length hlt]; omega
    have hcut : cutP cs (some ((n : Int) * k)) (some ((n : Int) * k + n)) = win cs (k * n) n := by
      have : (n : Int) * k = ((k * n : Nat) : Int) := by simp [Int.mul_comm]
      rw [this, cut_win (by omega) (by omega)]
      congr 1 <;> omega
    simp [b1_q_known, gMul_l (n := (n : Int)) (by omega), hb, hcut, q_card_eq hk hw]
theorem dep_cards (few times many : Int) (n : Nat) (cs : List Nat) : deps (cardsC few times many n cs) ≤ 10 := deps_map (fun k => by simp) _
end DD
/-! cuts -/
namespace DD
open PySem PySem.Spec L2
def b1_p_places_of : CS := (cSeq (cIf (c2 gGt (cV 6) (cV 1))
    (cAsg 5 (cCall p_next_sum [(cV 0), (cV 5), (cV 1), (c2 gIdx (cV 3) (c2 gSub (c2 gSub (cV 6) (cV 1)) (cK (.i 1)))), (c2 gIdx (cV 3) (c2 gSub (cV 6) (cK (.i 1))))]))
    cNext)
    (cIf (c2 gEq (c2 gMod (c1 gSumT (cV 5)) (cV 2)) (cK (.i 0)))
    (cApp 4 (cV 6))
    cNext))
def b_p_places_of : CS := (cSeq (cAsgM 4 (cLst []))
    (cSeq (cIf (c2 gLt (c1 gLen (cV 3)) (cV 1))
    (cRetV 4)
    cNext)
    (cSeq (cAsg 5 (cCall p_first_of [(cV 0), (cSl (cV 3) none (some (cV 1)))]))
    (cSeq (cFor (iR2 (cV 1) (c2 gAdd (c1 gLen (cV 3)) (cK (.i 1)))) (tgN 6) b1_p_places_of)
    (cRetV 4)))))
def p_places_of : List PV → Option ER := fnD 4 7 b_p_places_of
def b_p_need_all : CS := (cSeq (cDrop (cCall p_need_key [(cV 0)]))
    (cSeq (cDrop (cCall p_need_size [(cV 1)]))
    (cDrop (cCall p_need_size [(cV 2)]))))
def p_need_all : List PV → Option ER := fnD 3 3 b_p_need_all
def b_p_cut_places : CS := (cSeq (cDrop (cCall p_need_all [(cV 0), (cV 1), (cV 2)]))
    (cSeq (cDrop (cCall p_need_text [(cV 3)]))
    (cRet (cCall p_places_of [(cV 0), (cV 1), (cV 2), (cV 3)]))))
def p_cut_places : List PV → Option ER := fnD 4 4 b_p_cut_places
/-- whether a text is cut behind its first p signs -/
def cutHere (few : Int) (part w : Nat) (cs : List Nat) (p : Nat) : Bool := decide ((sumC (win cs (p - w) w) % few + leanC (win cs (p - w) w) % few) % (part : Int) = 0)
def cutsC (few : Int) (part w : Nat) (cs : List Nat) : List Nat := ((List.range (cs.length + 1 - w)).map (fun k => w + k)).filter (cutHere few part w cs)
theorem filter_snoc {α : Type} {p : α → Bool} {l : List α} {a : α} : (l ++ [a]).filter p = if p a then l.filter p ++ [a] else l.filter p := by
  rw [List.filter_append]
  cases h : p a <;> simp [h]
abbrev cutPV (few : Int) (part w : Nat) (cs : List Nat) (pre : List Nat) : List PV := ((pre.map (fun k => w + k)).filter (cutHere few part w cs)).map fun p => .i (p : Nat)
theorem cutPV_snoc {few : Int} {part w : Nat} {cs pre : List Nat} {k : Nat} : cutPV few part w cs (pre ++ [k]) = if cutHere few part w cs (w + k) then cutPV few part w cs pre ++ [.i ((w + k : Nat) : Int)] else cutPV few part w cs pre := by
  unfold cutPV
  rw [List.map_append, List.map_singleton, filter_snoc]
  split <;> simp
theorem cutPV_len {few : Int} {part w : Nat} {cs pre : List Nat} : (cutPV few part w cs pre).length ≤ pre.length := by
  unfold cutPV
  rw [List.length_map]
  exact Nat.le_trans (List.length_filter_le _ _) (by simp)
theorem places_turn {few times many : Int} (hk : OkKey few times many) {w part : Nat} (hw : 0 < w ∧ w ≤ 200) (hp : 0 < part) {cs : List Nat} (hc : cs.length ≤ 10000) {k : Nat} (h : w + k ≤ cs.length) {xs : List PV} (hx : xs.length < 1000000) {b : Sl1} :
    b1_p_places_of [.d (keyD few times many), .d (.i w), .d (.i part), .d (.s cs), .m xs, .d (firstD few (win cs (k - 1) w)), .d (.i ((w : Int) + k))] =
      some (.nx [.d (keyD few times many), .d (.i w), .d (.i part), .d (.s cs), .m (if cutHere few part w cs (w + k) then xs ++ [.i ((w + k : Nat) : Int)] else xs), .d (firstD few (win cs k w)), .d (.i ((w : Int) + k))]) := by
  have hf := hk.f
  have hb : cs.length ≤ big := by unfold big; omega
  have hb2 : xs.length < big := by unfold big; omega
  have hcut : ∀ ρ : Sl, ρ = [.d (keyD few times many), .d (.i w), .d (.i part), .d (.s cs), .m xs, .d (firstD few (win cs k w)), .d (.i ((w : Int) + k))] →
      (cIf (c2 gEq (c2 gMod (c1 gSumT (cV 5)) (cV 2)) (cK (.i 0))) (cApp 4 (cV 6)) cNext) ρ = some (.nx [.d (keyD few times many), .d (.i w), .d (.i part), .d (.s cs), .m (if cutHere few part w cs (w + k) then xs ++ [.i ((w + k : Nat) : Int)] else xs), .d (firstD few (win cs k w)), .d (.i ((w : Int) + k))]) := by
    rintro ρ rfl
    have e : cutHere few part w cs (w + k) = decide ((sumC (win cs k w) % few + leanC (win cs k w) % few) % (part : Int) = 0) := by
      unfold cutHere
      rw [show w + k - w = k by omega]
    simp [intsOf, hp, br_b, e, hb2]
    split <;> rfl
  by_cases h0 : k = 0
  · subst h0
    rw [b1_p_places_of, cSeq_ap]
    simp only [cIf_ap, c2_ap, cV_ap, List.getElem?_cons_succ, List.getElem?_cons_zero, e1_d, gGt_i, decide_eq_false (show ¬ (w : Int) < (w : Int) + ((0 : Nat) : Int) by omega), br_f, cNext_ap, sq_nx]
    exact hcut _ rfl
  · obtain ⟨r, e1, e2, e3⟩ := win_step (cs := cs) (p := k - 1) (n := w) (by omega) hw.1
    have hr : p_next_sum [keyD few times many, firstD few (win cs (k - 1) w), .i w, .s [cs[k - 1]], .s [cs[k - 1 + w]]] = some (.d (firstD few (win cs k w))) := by
      have := next_first (times := times) (many := many) (few := few) (c := cs[k - 1]) (d := cs[k - 1 + w]) (r := r) (n := (w : Int)) (by omega) (by rw [e3]) (by omega)
      rw [← e1, ← e2, show k - 1 + 1 = k by omega] at this
      exact this
    have i1 := idx_cn (cs := cs) (i := k - 1) (by omega) hb
    have i2 := idx_cn (cs := cs) (i := k - 1 + w) (by omega) hb
    rw [b1_p_places_of, cSeq_ap]
    simp only [cIf_ap, c2_ap, cV_ap, cK_ap, cAsg_ap, cCall_ap, cA_cons, cA_nil, eS_d, List.getElem?_cons_succ, List.getElem?_cons_zero, e1_d, gGt_i, gSub_i, decide_eq_true (show (w : Int) < (w : Int) + (k : Int) by omega), br_t, show (w : Int) + k - w - 1 = ((k - 1 : Nat) : Int) by omega, show (w : Int) + k - 1 = ((k - 1 + w : Nat) : Int) by omega, i1, i2, hr, lS_d, sq_nx, List.set_cons_succ, List.set_cons_zero]
    exact hcut _ rfl
theorem p_places_of_eq {few times many : Int} (hk : OkKey few times many) {w part : Nat} (hw : 0 < w ∧ w ≤ 200) (hp : 0 < part) {cs : List Nat} (hc : cs.length ≤ 10000) :
    p_places_of [keyD few times many, .i w, .i part, .s cs] = some (.f ((cutsC few part w cs).map fun p => .i (p : Nat))) := by
  unfold p_places_of
  rw [fnD4]
  have hb : cs.length ≤ big := by unfold big; omega
  have hf := hk.f
  simp [b_p_places_of, hb]
  by_cases h : cs.length < w
  · simp [h, cutsC, show cs.length + 1 - w = 0 by omega]
  · simp [h, hb, cut_win0, p_first_of_eq (few := few) (times := times) (many := many) (by omega), show (cs.length : Int) + 1 - w = ((cs.length + 1 - w : Nat) : Int) by omega, show w < lim by unfold lim; omega, show ((cs.length : Int) + 1).natAbs < lim by unfold lim; omega, upTo_map]
    have key := forGo_inv (tg := tgN 6) (s := b1_p_places_of) (m := fun k : Nat => PV.i ((w : Int) + (k : Nat))) (L := List.range (cs.length + 1 - w))
      (ρ := [.d (keyD few times many), .d (.i w), .d (.i part), .d (.s cs), .m [], .d (firstD few (win cs 0 w)), .u])
      (S := fun pre ρ => ∃ a, ρ = [.d (keyD few times many), .d (.i w), .d (.i part), .d (.s cs), .m (cutPV few part w cs pre), .d (firstD few (win cs (pre.length - 1) w)), a])
      ⟨.u, by simp [cutPV]⟩ (by
      rintro pre k post hL ρ1 ⟨a, rfl⟩
      obtain ⟨rfl, hlt⟩ := range_split hL
      have := cutPV_len (few := few) (part := part) (w := w) (cs := cs) (pre := pre)
      simp only [tgN_ap, List.set_cons_succ, List.set_cons_zero, tu_some]
      rw [places_turn hk hw hp hc (by omega) (by omega) (b := .u)]
      simp only [goesTo_nx, cutPV_snoc]
      exact ⟨.d (.i ((w : Int) + pre.length)), by simp⟩)
    obtain ⟨ρ', e, a, rfl⟩ := key
    rw [e]
    simp [cutsC]
theorem p_cut_places_eq {few times many : Int} (hk : OkKey few times many) {w part : Nat} (hw : 0 < w ∧ w ≤ 200) (hp : 0 < part ∧ part ≤ 200) {cs : List Nat} (hc : okText cs) :
    p_cut_places [keyD few times many, .i w, .i part, .s cs] = some (.f ((cutsC few part w cs).map fun p => .i (p : Nat))) := by
  unfold p_cut_places
  rw [fnD4]
  have hn : p_need_all [keyD few times many, .i w, .i part] = some (.d .n) := by
    unfold p_need_all
    rw [fnD3]
    simp [b_p_need_all, p_need_key_ok hk, p_need_size_ok (n := w) (by omega), p_need_size_ok (n := part) (by omega)]
  simp [b_p_cut_places, hn, p_need_text_ok hc, p_places_of_eq hk hw hp.1 (show cs.length ≤ 10000 by have := hc.1; omega)]
theorem cuts_mem {few : Int} {part w : Nat} {cs : List Nat} {p : Nat} : p ∈ cutsC few part w cs ↔ w ≤ p ∧ p ≤ cs.length ∧ cutHere few part w cs p = true := by
  unfold cutsC
  rw [List.mem_filter, List.mem_map]
  constructor
  · rintro ⟨⟨k, hk, rfl⟩, h⟩
    have := List.mem_range.mp hk
    exact ⟨by omega, by omega, h⟩
  · rintro ⟨h1, h2, h⟩
    exact ⟨⟨p - w, List.mem_range.mpr (by omega), by omega⟩, h⟩
theorem cuts_len {few : Int} {part w : Nat} {cs : List Nat} : (cutsC few part w cs).length ≤ cs.length + 1 := by
  unfold cutsC
  exact Nat.le_trans (List.length_filter_le _ _) (by simp)
end DD
/-! stretches between cuts -/
namespace DD
open PySem PySem.Spec L2
def b1_p_parts_of : CS := (cIf (c2 gGt (cV 6) (cV 5))
    (cSeq (cApp 4 (cTup [(cV 5), (cSl (cV 3) (some (cV 5)) (some (cV 6)))]))
    (cAsg 5 (cV 6)))
    cNext)
def b_p_parts_of : CS := (cSeq (cAsgM 4 (cLst []))
    (cSeq (cAsg 5 (cK (.i 0)))
    (cSeq (cFor (iL (c2 gAdd (cCall p_places_of [(cV 0), (cV 1), (cV 2), (cV 3)]) (cLst [(c1 gLen (cV 3))]))) (tgN 6) b1_p_parts_of)
    (cRetV 4))))
def p_parts_of : List PV → Option ER := fnD 4 7 b_p_parts_of
def b1_p_stretches : CF := (cV 5)
def b_p_stretches : CS := (cSeq (cDrop (cCall p_need_all [(cV 0), (cV 1), (cV 2)]))
    (cSeq (cDrop (cCall p_need_text [(cV 3)]))
    (cRet (cLc [4, 5] (iL (cCall p_parts_of [(cV 0), (cV 1), (cV 2), (cV 3)])) (tg2 4 5) cYes b1_p_stretches))))
def p_stretches : List PV → Option ER := fnD 4 6 b_p_stretches
def partsGo (cs : List Nat) : Nat → List Nat → List (Nat × List Nat)
  | _, [] => []
  | last, p :: ps => if last < p then (last, win cs last (p - last)) :: partsGo cs p ps else partsGo cs last ps
def lastGo : Nat → List Nat → Nat
  | last, [] => last
  | last, p :: ps => if last < p then lastGo p ps else lastGo last ps
theorem partsGo_snoc (cs : List Nat) : ∀ (ps : List Nat) (last p : Nat), partsGo cs last (ps ++ [p]) = partsGo cs last ps ++ (if lastGo last ps < p then [(lastGo last ps, win cs (lastGo last ps) (p - lastGo last ps))] else []) ∧ lastGo last (ps ++ [p]) = if lastGo last ps < p then p else lastGo last ps
  | [], last, p => by
    simp only [List.nil_append, partsGo, lastGo]
    exact ⟨rfl, rfl⟩
  | q :: ps, last, p => by
    simp only [List.cons_append, partsGo, lastGo]
    by_cases h : last < q
    · simp only [h, if_true]
      have ih := partsGo_snoc cs ps q p
      rw [ih.1, ih.2]
      simp
    · simp only [h, if_false]
      exact partsGo_snoc cs ps last p
theorem partsGo_len (cs : List Nat) : ∀ (ps : List Nat) (last : Nat), (partsGo cs last ps).length ≤ ps.length
  | [], _ => by simp [partsGo]
  | q :: ps, last => by
    unfold partsGo
    split
    · have := partsGo_len cs ps q
      simp; omega
    · have := partsGo_len cs ps last
      simp; omega
abbrev partPV (x : Nat × List Nat) : PV := .t [.i (x.1 : Nat), .s x.2]
abbrev ends (few : Int) (part w : Nat) (cs : List Nat) : List Nat := cutsC few part w cs ++ [cs.length]
abbrev partsC (few : Int) (part w : Nat) (cs : List Nat) : List (Nat × List Nat) := partsGo cs 0 (ends few part w cs)
theorem ends_le {few : Int} {part w : Nat} {cs : List Nat} {p : Nat} (h : p ∈ ends few part w cs) : p ≤ cs.length := by
  rcases List.mem_append.mp h with h | h
  · exact (cuts_mem.mp h).2.1
  · rw [List.mem_singleton.mp h]; exact Nat.le_refl _
theorem ends_len {few : Int} {part w : Nat} {cs : List Nat} : (ends few part w cs).length ≤ cs.length + 2 := by
  have := cuts_len (few := few) (part := part) (w := w) (cs := cs)
  simp
  omega
theorem p_parts_of_eq {few times many : Int} (hk : OkKey few times many) {w part : Nat} (hw : 0 < w ∧ w ≤ 200) (hp : 0 < part) {cs : List Nat} (hc : cs.length ≤ 10000) :
    p_parts_of [keyD few times many, .i w, .i part, .s cs] = some (.f ((partsC few part w cs).map partPV)) := by
  unfold p_parts_of
  rw [fnD4]
  have hb : cs.length ≤ big := by unfold big; omega
  have hl := ends_len (few := few) (part := part) (w := w) (cs := cs)
  have hl2 : (cutsC few part w cs).length + 1 ≤ big := by
    have := cuts_len (few := few) (part := part) (w := w) (cs := cs)
    unfold big; omega
  simp only [b_p_parts_of, cSeq_ap, cAsgM_ap, cLst_ap, cA_nil, List.length_nil, if_pos (Nat.zero_le big), asM_f, sq_nx, show List.replicate (7 - 4) Sl1.u = [.u, .u, .u] from rfl, List.set_cons_succ, List.set_cons_zero, cAsg_ap, cK_ap, lS_d, cFor_ap, iL_ap, c2_ap, cCall_ap, cA_cons, cV_ap, List.getElem?_cons_zero, List.getElem?_cons_succ, eS_d,
    p_places_of_eq hk hw hp hc, e1_f, c1_ap, e1_d, gLen_s, if_pos hb, List.length_singleton, big_1, if_true, gAdd_l, List.length_map, if_pos hl2, eS_f, uL_l, fr_f]
  have key := forGo_inv (tg := tgN 6) (s := b1_p_parts_of) (m := fun p : Nat => PV.i (p : Int)) (L := ends few part w cs)
    (ρ := [.d (keyD few times many), .d (.i w), .d (.i part), .d (.s cs), .m [], .d (.i 0), .u])
    (S := fun pre ρ => ∃ a, ρ = [.d (keyD few times many), .d (.i w), .d (.i part), .d (.s cs), .m ((partsGo cs 0 pre).map partPV), .d (.i (lastGo 0 pre : Nat)), a])
    ⟨.u, rfl⟩ (by
    rintro pre p post hL ρ1 ⟨a, rfl⟩
    have hpl := partsGo_len cs pre 0
    have hlen : (ends few part w cs).length = pre.length + (post.length + 1) := by rw [hL]; simp
    have hbig : 100000 ≤ big := by unfold big; omega
    have hb2 : (partsGo cs 0 pre).length < big := by omega
    obtain ⟨s1, s2⟩ := partsGo_snoc cs pre 0 p
    rw [s1, s2]
    by_cases h : lastGo 0 pre < p
    · have hcut : cutP cs (some ((lastGo 0 pre : Nat) : Int)) (some (p : Int)) = win cs (lastGo 0 pre) (p - lastGo 0 pre) := by
        rw [cut_win (by omega) (by omega)]
        congr 1
        omega
      simp [b1_p_parts_of, h, hb, hb2, hcut]
    · simp [b1_p_parts_of, h])
  obtain ⟨ρ', e, a, rfl⟩ := key
  rw [List.map_append, List.map_singleton] at e
  rw [e]
  simp
theorem p_stretches_eq {few times many : Int} (hk : OkKey few times many) {w part : Nat} (hw : 0 < w ∧ w ≤ 200) (hp : 0 < part ∧ part ≤ 200) {cs : List Nat} (hc : okText cs) :
    p_stretches [keyD few times many, .i w, .i part, .s cs] = some (.f ((partsC few part w cs).map fun x => .s x.2)) := by
  unfold p_stretches
  rw [fnD4]
  have hn : p_need_all [keyD few times many, .i w, .i part] = some (.d .n) := by
    unfold p_need_all
    rw [fnD3]
    simp [b_p_need_all, p_need_key_ok hk, p_need_size_ok (n := w) (by omega), p_need_size_ok (n := part) (by omega)]
  have hl : (partsC few part w cs).length ≤ big := by
    have h1 := partsGo_len cs (ends few part w cs) 0
    have h2 := ends_len (few := few) (part := part) (w := w) (cs := cs)
    have := hc.1
    have hbig : 100000 ≤ big := by unfold big; omega
    show (partsGo cs 0 (ends few part w cs)).length ≤ big
    omega
  simp [b_p_stretches, hn, p_need_text_ok hc, p_parts_of_eq hk hw hp.1 (show cs.length ≤ 10000 by have := hc.1; omega), hl]
  rw [lcGo_map (m := partPV) (w := fun x => PV.s x.2)]
  · simp
  · intro x _
    exact ⟨_, rfl, rfl, by simp [b1_p_stretches]⟩
/-- together the stretches are the text -/
theorem parts_join (cs : List Nat) : ∀ (ps : List Nat) (last : Nat), last ≤ cs.length → (∀ p ∈ ps, p ≤ cs.length) → ((partsGo cs last ps).map (·.2)).flatten = (cs.drop last).take (lastGo last ps - last) ∧ last ≤ lastGo last ps ∧ lastGo last ps ≤ cs.length
  | [], last, h, _ => by simp [partsGo, lastGo, h]
  | p :: ps, last, h, hp => by
    have hp0 := hp p (by simp)
    simp only [partsGo, lastGo]
    by_cases hl : last < p
    · simp only [hl, if_true]
      obtain ⟨i1, i2, i3⟩ := parts_join cs ps p hp0 fun q hq => hp q (by simp [hq])
      refine ⟨?_, by omega, i3⟩
      rw [List.map_cons, List.flatten_cons, i1]
      unfold win
      have : (cs.drop last).take (lastGo p ps - last) = (cs.drop last).take ((p - last) + (lastGo p ps - p)) := by congr 1; omega
      rw [this, List.take_add, List.drop_drop]
      congr 3
      omega
    · simp only [hl, if_false]
      exact parts_join cs ps last h fun q hq => hp q (by simp [hq])
theorem lastGo_max : ∀ (ps : List Nat) (last p : Nat), p ∈ ps → p ≤ lastGo last ps ∧ last ≤ lastGo last ps
  | [], _, _, h => by cases h
  | q :: ps, last, p, h => by
    have mono : ∀ (ps : List Nat) (l : Nat), l ≤ lastGo l ps := by
      intro ps
      induction ps with
      | nil => intro l; exact Nat.le_refl _
      | cons r ps ih =>
        intro l
        unfold lastGo
        split
        · have := ih r; omega
        · exact ih l
    unfold lastGo
    split
    · have := mono ps q
      rcases List.mem_cons.mp h with rfl | h
      · omega
      · have := lastGo_max ps q p h
        omega
    · have := mono ps last
      rcases List.mem_cons.mp h with rfl | h
      · omega
      · exact lastGo_max ps last p h
theorem parts_text {few : Int} {part w : Nat} {cs : List Nat} : ((partsC few part w cs).map (·.2)).flatten = cs := by
  obtain ⟨h1, h2, h3⟩ := parts_join cs (ends few part w cs) 0 (by omega) fun p hp => ends_le hp
  rw [h1]
  have := (lastGo_max (ends few part w cs) 0 cs.length (by simp)).1
  rw [List.drop_zero, List.take_of_length_le (by omega)]
theorem joinL_nil : ∀ ys : List (List Nat), TL.joinL [] ys = ys.flatten
  | [] => rfl
  | [y] => by simp [TL.joinL]
  | y :: z :: r => by
    have := joinL_nil (z :: r)
    simp only [TL.joinL, List.nil_append, this, List.flatten_cons]
theorem lensum_flat (ys : List (List Nat)) : lensum ys = ys.flatten.length := by
  rw [List.length_flatten]
end DD
/-! k13 -/
namespace DD
open PySem PySem.Spec L2
def b1_q_cuts : CS := (cIf (c2 gEq (c2 gMod (c1 gSumT (cCall q_first [(cV 0), (cSl (cV 3) (some (c2 gSub (cV 5) (cV 1))) (some (cV 5)))])) (cV 2)) (cK (.i 0)))
    (cApp 4 (cV 5))
    cNext)
def b_q_cuts : CS := (cSeq (cAsgM 4 (cLst []))
    (cSeq (cFor (iR2 (cV 1) (c2 gAdd (c1 gLen (cV 3)) (cK (.i 1)))) (tgN 5) b1_q_cuts)
    (cRetV 4)))
def q_cuts : List PV → Option ER := fnD 4 6 b_q_cuts
def b1_law : CS := (cSeq (cIf (c2 gGt (cV 8) (cV 7))
    (cApp 6 (cSl (cV 1) (some (cV 7)) (some (cV 8))))
    cNext)
    (cAsg 7 (cV 8)))
def b_law : CS := (cSeq (cAsg 1 (cCall q_text [(cV 0), (cK (.i 5)), (cK (.i 40))]))
    (cSeq (cAsg 2 (cCall q_key [(cV 0), (cK (.i 0))]))
    (cSeq (cAsg 3 (c2 gAdd (cK (.i 1)) (cCall q_mixed [(cV 0), (cK (.i 3)), (cK (.i 6))])))
    (cSeq (cAsg 4 (c2 gAdd (cK (.i 1)) (cCall q_mixed [(cV 0), (cK (.i 4)), (cK (.i 7))])))
    (cSeq (cAsg 5 (cCall p_cut_places [(cV 2), (cV 3), (cV 4), (cV 1)]))
    (cSeq (cIf (cOr (cNot (c1 (gIs "list") (cV 5))) (c2 gNe (cV 5) (cCall q_cuts [(cV 2), (cV 3), (cV 4), (cV 1)])))
    (cRet (cK (.b false)))
    cNext)
    (cSeq (cAsgM 6 (cLst []))
    (cSeq (cAsg 7 (cK (.i 0)))
    (cSeq (cFor (iL (c2 gAdd (cV 5) (cLst [(c1 gLen (cV 1))]))) (tgN 8) b1_law)
    (cFrz 6 (cSeq (cAsg 9 (cCall p_stretches [(cV 2), (cV 3), (cV 4), (cV 1)]))
    (cRet (cAnd (c1 (gIs "list") (cV 9)) (cAnd (c2 gEq (cV 9) (cV 6)) (c2 gEq (cM1 gJoin (cK (.s [])) (cV 9)) (cV 1))))))))))))))))
def law : List PV → Option ER := fnD 1 10 b_law
theorem cuts_turn {few times many : Int} (hk : OkKey few times many) {w part : Nat} (hw : 0 < w ∧ w ≤ 200) (hp : 0 < part) {cs : List Nat} (hc : cs.length ≤ 10000) {k : Nat} (h : w + k ≤ cs.length) {xs : List PV} (hx : xs.length < 1000000) :
    b1_q_cuts [.d (keyD few times many), .d (.i w), .d (.i part), .d (.s cs), .m xs, .d (.i ((w : Int) + k))] =
      some (.nx [.d (keyD few times many), .d (.i w), .d (.i part), .d (.s cs), .m (if cutHere few part w cs (w + k) then xs ++ [.i ((w + k : Nat) : Int)] else xs), .d (.i ((w : Int) + k))]) := by
  have hf := hk.f
  have hb : cs.length ≤ big := by unfold big; omega
  have hb2 : xs.length < big := by unfold big; omega
  have hcut : cutP cs (some ((w : Int) + k - w)) (some ((w : Int) + k)) = win cs k w := by
    rw [cut_win (by omega) (by omega)]
    congr 1 <;> omega
  have hwl : (win cs k w).length ≤ 100000 := by unfold win; simp; omega
  have e : cutHere few part w cs (w + k) = decide ((sumC (win cs k w) % few + leanC (win cs k w) % few) % (part : Int) = 0) := by
    unfold cutHere
    rw [show w + k - w = k by omega]
  simp [b1_q_cuts, hb, hcut, q_first_eq (few := few) (times := times) (many := many) (by omega) hwl, intsOf, hp, br_b, e, hb2]
  split <;> rfl
theorem q_cuts_eq {few times many : Int} (hk : OkKey few times many) {w part : Nat} (hw : 0 < w ∧ w ≤ 200) (hp : 0 < part) {cs : List Nat} (hc : cs.length ≤ 10000) :
    q_cuts [keyD few times many, .i w, .i part, .s cs] = some (.f ((cutsC few part w cs).map fun p => .i (p : Nat))) := by
  unfold q_cuts
  rw [fnD4]
  have hb : cs.length ≤ big := by unfold big; omega
  have e0 : ((cs.length : Int) + 1 - w).toNat = cs.length + 1 - w := by omega
  simp [b_q_cuts, hb, show w < lim by unfold lim; omega, show ((cs.length : Int) + 1).natAbs < lim by unfold lim; omega, upTo_map, e0]
  have key := forGo_inv (tg := tgN 5) (s := b1_q_cuts) (m := fun k : Nat => PV.i ((w : Int) + (k : Nat))) (L := List.range (cs.length + 1 - w))
    (ρ := [.d (keyD few times many), .d (.i w), .d (.i part), .d (.s cs), .m [], .u])
    (S := fun pre ρ => ∃ a, ρ = [.d (keyD few times many), .d (.i w), .d (.i part), .d (.s cs), .m (cutPV few part w cs pre), a])
    ⟨.u, by simp [cutPV]⟩ (by
    rintro pre k post hL ρ1 ⟨a, rfl⟩
    obtain ⟨rfl, hlt⟩ := range_split hL
    have := cutPV_len (few := few) (part := part) (w := w) (cs := cs) (pre := pre)
    simp only [tgN_ap, List.set_cons_succ, List.set_cons_zero, tu_some]
    rw [cuts_turn hk hw hp hc (by omega) (by omega)]
    simp only [goesTo_nx, cutPV_snoc]
    exact ⟨.d (.i ((w : Int) + pre.length)), by simp⟩)
  obtain ⟨ρ', e, a, rfl⟩ := key
  rw [e]
  simp [cutsC]
theorem pw_sorted (few : Int) (part w : Nat) (cs : List Nat) : (ends few part w cs).Pairwise (· ≤ ·) := by
  rw [List.pairwise_append]
  refine ⟨?_, by simp, fun a ha b hb => ?_⟩
  · unfold cutsC
    apply List.Pairwise.filter
    rw [List.pairwise_map]
    have := List.pairwise_lt_range (n := cs.length + 1 - w)
    exact this.imp fun h => by omega
  · rw [List.mem_singleton.mp hb]
    exact (cuts_mem.mp ha).2.1
/-- over rising places, the law's own walk is at the place itself -/
theorem lastGo_sorted : ∀ (ps : List Nat) (last : Nat), (last :: ps).Pairwise (· ≤ ·) → lastGo last ps = ps.getLast?.getD last
  | [], _, _ => rfl
  | p :: ps, last, h => by
    have hp : last ≤ p := (List.pairwise_cons.mp h).1 p (by simp)
    have h2 : (p :: ps).Pairwise (· ≤ ·) := (List.pairwise_cons.mp h).2
    unfold lastGo
    have ih := lastGo_sorted ps p h2
    have e : (p :: ps).getLast?.getD last = ps.getLast?.getD p := by
      cases ps with
      | nil => rfl
      | cons q r => simp [List.getLast?_cons]
    rw [e]
    split
    · exact ih
    · rename_i hn
      have : p = last := by omega
      rw [this] at ih
      rw [ih, this]
theorem law_plain (ns : List Int) : law [.z ns] = some (.d (.b true)) := by
  unfold law
  rw [fnD1]
  have hk := key_ok ns 0
  have hm3 := mixed_nn (ns := ns) (k := 3) (many := 6) (by decide)
  have hm4 := mixed_nn (ns := ns) (k := 4) (many := 7) (by decide)
  have ht : okText (text ns 5 40) := text_okT (by decide) (by decide)
  have hl := text_len (ns := ns) (at_ := 5) (most := 40) (by decide)
  obtain ⟨w, hw⟩ : ∃ w : Nat, 1 + mixed ns 3 6 = (w : Int) := ⟨(1 + mixed ns 3 6).toNat, by omega⟩
  obtain ⟨part, hp⟩ : ∃ w : Nat, 1 + mixed ns 4 7 = (w : Int) := ⟨(1 + mixed ns 4 7).toNat, by omega⟩
  generalize htx : text ns 5 40 = cs at *
  have hb : cs.length ≤ big := by unfold big; omega
  have hcl := cuts_len (few := key0 ns 0) (part := part) (w := w) (cs := cs)
  have hel := ends_len (few := key0 ns 0) (part := part) (w := w) (cs := cs)
  have hcp := p_cut_places_eq (cs := cs) hk (w := w) (part := part) (by omega) (by omega) ht
  have hqc := q_cuts_eq (cs := cs) hk (w := w) (part := part) (by omega) (by omega) (by omega)
  have hst := p_stretches_eq (cs := cs) hk (w := w) (part := part) (by omega) (by omega) ht
  have hd1 : deps ((cutsC (key0 ns 0) part w cs).map fun p => PV.i (p : Nat)) ≤ 0 := deps_map (fun p => by simp) _
  have hd2 : deps ((partsC (key0 ns 0) part w cs).map fun x => PV.s x.2) ≤ 0 := deps_map (fun p => by simp) _
  have hbig : 100000 ≤ big := by unfold big; omega
  have hcb : (cutsC (key0 ns 0) part w cs).length + 1 ≤ big := by omega
  have hpl : (partsC (key0 ns 0) part w cs).length ≤ 100 := by
    have := partsGo_len cs (ends (key0 ns 0) part w cs) 0
    show (partsGo cs 0 (ends (key0 ns 0) part w cs)).length ≤ 100
    omega
  simp only [b_law, cSeq_ap, cAsg_ap, cCall_ap, cA_cons, cA_nil, cV_ap, cK_ap, eS_d, lS_d, List.getElem?_cons_zero, q_text_eq ns (at_ := 5) (most := 40) (by decide) (by decide) (by decide), htx]
  simp [q_key_eq ns (at_ := 0) (by decide), q_mixed_eq ns (k := 3) (many := 6) (by decide) (by decide), q_mixed_eq ns (k := 4) (many := 7) (by decide) (by decide), hw, hp, hcp, hqc, isL, hcb, hb]
  rw [gNe_l (by simp; omega) (by simp; omega), eqv_refl]
  simp [hb, hcb]
  have key := forGo_inv (tg := tgN 8) (s := b1_law) (m := fun p : Nat => PV.i (p : Int)) (L := ends (key0 ns 0) part w cs)
    (ρ := [.d (.z ns), .d (.s cs), .d (keyD (key0 ns 0) (key1 ns 0) (key2 ns 0)), .d (.i w), .d (.i part), .d (.l ((cutsC (key0 ns 0) part w cs).map fun p => .i (p : Nat))), .m [], .d (.i 0), .u, .u])
    (S := fun pre ρ => ∃ a, ρ = [.d (.z ns), .d (.s cs), .d (keyD (key0 ns 0) (key1 ns 0) (key2 ns 0)), .d (.i w), .d (.i part), .d (.l ((cutsC (key0 ns 0) part w cs).map fun p => .i (p : Nat))), .m ((partsGo cs 0 pre).map fun x => .s x.2), .d (.i (lastGo 0 pre : Nat)), a, .u])
    ⟨.u, rfl⟩ (by
    rintro pre p post hL ρ1 ⟨a, rfl⟩
    have hpl := partsGo_len cs pre 0
    have hlen : (ends (key0 ns 0) part w cs).length = pre.length + (post.length + 1) := by rw [hL]; simp
    have hb2 : (partsGo cs 0 pre).length < big := by omega
    obtain ⟨s1, s2⟩ := partsGo_snoc cs pre 0 p
    have hso := pw_sorted (key0 ns 0) part w cs
    rw [hL] at hso
    have hge : lastGo 0 pre ≤ p := by
      rw [lastGo_sorted pre 0 (List.pairwise_cons.mpr ⟨fun a _ => by omega, (List.pairwise_append.mp hso).1⟩)]
      cases hg : pre.getLast? with
      | none => simp
      | some q =>
        have hq : q ∈ pre := List.mem_of_getLast? hg
        simpa using (List.pairwise_append.mp hso).2.2 q hq p (by simp)
    rw [s1, s2]
    by_cases h : lastGo 0 pre < p
    · have hcut : cutP cs (some ((lastGo 0 pre : Nat) : Int)) (some (p : Int)) = win cs (lastGo 0 pre) (p - lastGo 0 pre) := by
        rw [cut_win (by omega) (by omega)]
        congr 1
        omega
      simp [b1_law, h, hb, hb2, hcut]
    · have he : lastGo 0 pre = p := by omega
      simp [b1_law, he])
  obtain ⟨ρ', e, a, rfl⟩ := key
  rw [List.map_append, List.map_singleton] at e
  rw [e]
  have hj : ((partsC (key0 ns 0) part w cs).map (·.2)).flatten = cs := parts_text
  have hso : strsOf ((partsC (key0 ns 0) part w cs).map fun x => PV.s x.2) = some ((partsC (key0 ns 0) part w cs).map (·.2)) := by
    rw [← strsOf_map, List.map_map]
    rfl
  simp only [fz_m, sq_nx, cFrz_ap, List.getElem?_cons_succ, List.getElem?_cons_zero, List.set_cons_succ, List.set_cons_zero, cSeq_ap, cAsg_ap, cCall_ap, cA_cons, cA_nil, cV_ap, eS_d, hst, lS_f, cRet_ap, cAnd_ap, c1_ap, e1_d, gIs_list, isL, an_t, c2_ap,
    gEq_l (show dep (.l ((partsC (key0 ns 0) part w cs).map fun x => PV.s x.2)) ≤ 60 by simp; omega) (show dep (.l ((partsC (key0 ns 0) part w cs).map fun x => PV.s x.2)) ≤ 60 by simp; omega), eqv_refl, cM1_ap, cK_ap, uM_s]
  rw [gJoin_l, hso]
  have hlb : lensum ((partsC (key0 ns 0) part w cs).map (·.2)) ≤ big := by rw [lensum_flat, hj]; exact hb
  simp [joinL_nil, hj, hlb]
end DD
namespace DD
open PySem PySem.Spec L2

def topS (i : Nat) : Stmt := PySem.Challenge.pw_rollmend_k13_cuts.main.body.getD i (.Pass ⟨0, 0, 0, 0⟩)
abbrev s_p_is_whole : Stmt := topS 8
abbrev n_p_is_whole : List Str := ["thing"]
theorem sc_p_is_whole : FnScope n_p_is_whole ["thing"] (defScope s_p_is_whole) := ⟨rfl, rfl, rfl, by decide +kernel, rfl, by decide +kernel, by decide +kernel⟩
abbrev s_p_between : Stmt := topS 9
abbrev n_p_between : List Str := ["thing", "low", "most"]
theorem sc_p_between : FnScope n_p_between ["thing", "low", "most"] (defScope s_p_between) := ⟨rfl, rfl, rfl, by decide +kernel, rfl, by decide +kernel, by decide +kernel⟩
abbrev s_p_worth : Stmt := topS 10
abbrev n_p_worth : List Str := ["sign"]
theorem sc_p_worth : FnScope n_p_worth ["sign"] (defScope s_p_worth) := ⟨rfl, rfl, rfl, by decide +kernel, rfl, by decide +kernel, by decide +kernel⟩
abbrev s_p_is_text : Stmt := topS 11
abbrev n_p_is_text : List Str := ["thing", "least", "most", "sign"]
theorem sc_p_is_text : FnScope n_p_is_text ["thing", "least", "most"] (defScope s_p_is_text) := ⟨rfl, rfl, rfl, by decide +kernel, rfl, by decide +kernel, by decide +kernel⟩
abbrev s_p_need_text : Stmt := topS 12
abbrev n_p_need_text : List Str := ["text"]
theorem sc_p_need_text : FnScope n_p_need_text ["text"] (defScope s_p_need_text) := ⟨rfl, rfl, rfl, by decide +kernel, rfl, by decide +kernel, by decide +kernel⟩
abbrev s_p_need_key : Stmt := topS 13
abbrev n_p_need_key : List Str := ["key"]
theorem sc_p_need_key : FnScope n_p_need_key ["key"] (defScope s_p_need_key) := ⟨rfl, rfl, rfl, by decide +kernel, rfl, by decide +kernel, by decide +kernel⟩
abbrev s_p_need_size : Stmt := topS 14
abbrev n_p_need_size : List Str := ["size"]
theorem sc_p_need_size : FnScope n_p_need_size ["size"] (defScope s_p_need_size) := ⟨rfl, rfl, rfl, by decide +kernel, rfl, by decide +kernel, by decide +kernel⟩
abbrev s_p_first_of : Stmt := topS 15
abbrev n_p_first_of : List Str := ["key", "text", "plain", "leaning", "sign"]
theorem sc_p_first_of : FnScope n_p_first_of ["key", "text"] (defScope s_p_first_of) := ⟨rfl, rfl, rfl, by decide +kernel, rfl, by decide +kernel, by decide +kernel⟩
abbrev s_p_next_sum : Stmt := topS 16
abbrev n_p_next_sum : List Str := ["key", "found", "many", "gone", "come", "plain", "leaning"]
theorem sc_p_next_sum : FnScope n_p_next_sum ["key", "found", "many", "gone", "come"] (defScope s_p_next_sum) := ⟨rfl, rfl, rfl, by decide +kernel, rfl, by decide +kernel, by decide +kernel⟩
abbrev s_p_places_of : Stmt := topS 18
abbrev n_p_places_of : List Str := ["key", "window", "part", "text", "made", "found", "place"]
theorem sc_p_places_of : FnScope n_p_places_of ["key", "window", "part", "text"] (defScope s_p_places_of) := ⟨rfl, rfl, rfl, by decide +kernel, rfl, by decide +kernel, by decide +kernel⟩
abbrev s_p_need_all : Stmt := topS 19
abbrev n_p_need_all : List Str := ["key", "window", "part"]
theorem sc_p_need_all : FnScope n_p_need_all ["key", "window", "part"] (defScope s_p_need_all) := ⟨rfl, rfl, rfl, by decide +kernel, rfl, by decide +kernel, by decide +kernel⟩
abbrev s_p_cut_places : Stmt := topS 20
abbrev n_p_cut_places : List Str := ["key", "window", "part", "text"]
theorem sc_p_cut_places : FnScope n_p_cut_places ["key", "window", "part", "text"] (defScope s_p_cut_places) := ⟨rfl, rfl, rfl, by decide +kernel, rfl, by decide +kernel, by decide +kernel⟩
abbrev s_p_parts_of : Stmt := topS 21
abbrev n_p_parts_of : List Str := ["key", "window", "part", "text", "made", "last", "place"]
theorem sc_p_parts_of : FnScope n_p_parts_of ["key", "window", "part", "text"] (defScope s_p_parts_of) := ⟨rfl, rfl, rfl, by decide +kernel, rfl, by decide +kernel, by decide +kernel⟩
abbrev s_p_stretches : Stmt := topS 22
abbrev n_p_stretches : List Str := ["key", "window", "part", "text", "place", "stretch"]
theorem sc_p_stretches : FnScope n_p_stretches ["key", "window", "part", "text"] (defScope s_p_stretches) := ⟨rfl, rfl, rfl, by decide +kernel, rfl, by decide +kernel, by decide +kernel⟩
abbrev s_q_cell_at : Stmt := topS 24
abbrev n_q_cell_at : List Str := ["_law_script", "_law_k"]
theorem sc_q_cell_at : FnScope n_q_cell_at ["_law_script", "_law_k"] (defScope s_q_cell_at) := ⟨rfl, rfl, rfl, by decide +kernel, rfl, by decide +kernel, by decide +kernel⟩
abbrev s_q_mixed : Stmt := topS 25
abbrev n_q_mixed : List Str := ["_law_script", "_law_k", "_law_many", "_law_drawn"]
theorem sc_q_mixed : FnScope n_q_mixed ["_law_script", "_law_k", "_law_many"] (defScope s_q_mixed) := ⟨rfl, rfl, rfl, by decide +kernel, rfl, by decide +kernel, by decide +kernel⟩
abbrev s_q_text : Stmt := topS 26
abbrev n_q_text : List Str := ["_law_script", "_law_at", "_law_most", "_law_signs", "_law_seed", "_law_made", "_law_k", "_law_drawn"]
theorem sc_q_text : FnScope n_q_text ["_law_script", "_law_at", "_law_most"] (defScope s_q_text) := ⟨rfl, rfl, rfl, by decide +kernel, rfl, by decide +kernel, by decide +kernel⟩
abbrev s_q_key : Stmt := topS 27
abbrev n_q_key : List Str := ["_law_script", "_law_at", "_law_few", "_law_times"]
theorem sc_q_key : FnScope n_q_key ["_law_script", "_law_at"] (defScope s_q_key) := ⟨rfl, rfl, rfl, by decide +kernel, rfl, by decide +kernel, by decide +kernel⟩
abbrev s_q_first : Stmt := topS 28
abbrev n_q_first : List Str := ["_law_key_here", "_law_text_here", "_law_even", "_law_lean", "_law_sign", "_law_k"]
theorem sc_q_first : FnScope n_q_first ["_law_key_here", "_law_text_here"] (defScope s_q_first) := ⟨rfl, rfl, rfl, by decide +kernel, rfl, by decide +kernel, by decide +kernel⟩
abbrev s_q_cuts : Stmt := topS 32
abbrev n_q_cuts : List Str := ["_law_key_here", "_law_window", "_law_part", "_law_text_here", "_law_found", "_law_place"]
theorem sc_q_cuts : FnScope n_q_cuts ["_law_key_here", "_law_window", "_law_part", "_law_text_here"] (defScope s_q_cuts) := ⟨rfl, rfl, rfl, by decide +kernel, rfl, by decide +kernel, by decide +kernel⟩
abbrev s_law : Stmt := topS 33
abbrev n_law : List Str := ["_law_script", "_law_text_here", "_law_key_here", "_law_window", "_law_part", "_law_places", "_law_due", "_law_last", "_law_place", "_law_answer"]
theorem sc_law : FnScope n_law ["_law_script"] (defScope s_law) := ⟨rfl, rfl, rfl, by decide +kernel, rfl, by decide +kernel, by decide +kernel⟩
structure Txt (K : PySem.W.Frag) (mg : Str → Option Value) (CA : Err → Addr) : Prop where
  f_p_is_whole : FunAt K mg "is_whole" s_p_is_whole ["thing"]
  f_p_between : FunAt K mg "between" s_p_between ["thing", "low", "most"]
  f_p_worth : FunAt K mg "worth" s_p_worth ["sign"]
  f_p_is_text : FunAt K mg "is_text" s_p_is_text ["thing", "least", "most"]
  f_p_need_text : FunAt K mg "need_text" s_p_need_text ["text"]
  f_p_need_key : FunAt K mg "need_key" s_p_need_key ["key"]
  f_p_need_size : FunAt K mg "need_size" s_p_need_size ["size"]
  f_p_first_of : FunAt K mg "first_of" s_p_first_of ["key", "text"]
  f_p_next_sum : FunAt K mg "next_sum" s_p_next_sum ["key", "found", "many", "gone", "come"]
  f_p_places_of : FunAt K mg "places_of" s_p_places_of ["key", "window", "part", "text"]
  f_p_need_all : FunAt K mg "need_all" s_p_need_all ["key", "window", "part"]
  f_p_cut_places : FunAt K mg "cut_places" s_p_cut_places ["key", "window", "part", "text"]
  f_p_parts_of : FunAt K mg "parts_of" s_p_parts_of ["key", "window", "part", "text"]
  f_p_stretches : FunAt K mg "stretches" s_p_stretches ["key", "window", "part", "text"]
  f_q_cell_at : FunAt K mg "_law_cell_at" s_q_cell_at ["_law_script", "_law_k"]
  f_q_mixed : FunAt K mg "_law_mixed" s_q_mixed ["_law_script", "_law_k", "_law_many"]
  f_q_text : FunAt K mg "_law_text" s_q_text ["_law_script", "_law_at", "_law_most"]
  f_q_key : FunAt K mg "_law_key" s_q_key ["_law_script", "_law_at"]
  f_q_first : FunAt K mg "_law_first" s_q_first ["_law_key_here", "_law_text_here"]
  f_q_cuts : FunAt K mg "_law_cuts" s_q_cuts ["_law_key_here", "_law_window", "_law_part", "_law_text_here"]
  g_all : mg "all" = none
  g_bool : mg "bool" = none
  g_int : mg "int" = none
  g_isinstance : mg "isinstance" = none
  g_len : mg "len" = none
  g_list : mg "list" = none
  g_ord : mg "ord" = none
  g_range : mg "range" = none
  g_str : mg "str" = none
  g_sum : mg "sum" = none
  g_tuple : mg "tuple" = none
  c_SIGNS : ∃ t, mg "SIGNS" = some (.int 2000 t)
  c_SIZE : ∃ t, mg "SIZE" = some (.int 200 t)
  e_NoKey : ErrAt K mg CA "NoKey" 2
  e_NoSigns : ErrAt K mg CA "NoSigns" 1
  e_NoSize : ErrAt K mg CA "NoSize" 3
section
variable {P : Program} {w : World} {K : PySem.W.Frag} {mg : Str → Option Value} {base : Heap} {CA : Err → Addr}
theorem ok_p_is_whole (T : Txt K mg CA) : DefAt P w K mg base CA 1 "is_whole" p_is_whole := by
  have nd := sc_p_is_whole.nd
  have g_bool := T.g_bool
  have g_int := T.g_int
  have g_isinstance := T.g_isinstance
  exact defAt T.f_p_is_whole sc_p_is_whole fun X hX hr E tk hp => by
    obtain ⟨f, cdv, A, outer, s0, H, E', rfl⟩ := hX
    exact ⟨_, (sx_one (s_ret (px_a (px_isi g_isinstance g_int (px_var 0)) (px_one (px_no (px_isi g_isinstance g_bool (px_var 0)))))))⟩

theorem ok_p_between (T : Txt K mg CA) : DefAt P w K mg base CA 2 "between" p_between := by
  have nd := sc_p_between.nd
  have G_p_is_whole := ok_p_is_whole (P := P) (w := w) (base := base) T
  exact defAt T.f_p_between sc_p_between fun X hX hr E tk hp => by
    obtain ⟨f, cdv, A, outer, s0, H, E', rfl⟩ := hX
    exact ⟨_, (sx_one (s_ret (px_a (px_call G_p_is_whole hr (by decide) tk (pa_c (px_var 0) pa_n)) (px_one (px_chain ox_le ox_le (px_var 1) (px_var 0) (px_var 2))))))⟩

theorem ok_p_worth (T : Txt K mg CA) : DefAt P w K mg base CA 1 "worth" p_worth := by
  have nd := sc_p_worth.nd
  have g_ord := T.g_ord
  exact defAt T.f_p_worth sc_p_worth fun X hX hr E tk hp => by
    obtain ⟨f, cdv, A, outer, s0, H, E', rfl⟩ := hX
    exact ⟨_, (sx_one (s_ret (px_ord g_ord (px_var 0))))⟩

theorem ok_p_is_text (T : Txt K mg CA) : DefAt P w K mg base CA 2 "is_text" p_is_text := by
  have nd := sc_p_is_text.nd
  have g_all := T.g_all
  have g_isinstance := T.g_isinstance
  have g_len := T.g_len
  have g_str := T.g_str
  have G_p_worth := ok_p_worth (P := P) (w := w) (base := base) T
  exact defAt T.f_p_is_text sc_p_is_text fun X hX hr E tk hp => by
    obtain ⟨f, cdv, A, outer, s0, H, E', rfl⟩ := hX
    exact ⟨_, (sx_cons (s_if (pt_w (pw_o (pt_no (pt_v (px_isi g_isinstance g_str (px_var 0)))) (pw_o1 (pt_no (pt_chainX ox_le ox_le (px_var 1) (px_len g_len (px_var 0)) (px_var 2))))))
    (sx_one (s_ret px_bl))
    sx_nil)
    (sx_one (s_ret (px_all rfl g_all (px_lc [("sign", 3)] rfl nd (pix_s (px_var 0)) (blkOk_by (N := n_p_is_text) (sc := defScope s_p_is_text) (by decide +kernel)) rfl (fun _ _ _ _ _ => (pgx_n 3 nd)) (fun _ _ _ _ _ => pts_n) (fun _ _ _ _ _ => (px_a (px_chain ox_le ox_le px_int (px_call G_p_worth hr (by decide) takes0 (pa_c (px_var 3) pa_n)) px_int) (px_one (px_ne hr (px_call G_p_worth hr (by decide) takes0 (pa_c (px_var 3) pa_n)) px_int)))))))))⟩

theorem ok_p_need_text (T : Txt K mg CA) : DefAt P w K mg base CA 3 "need_text" p_need_text := by
  have nd := sc_p_need_text.nd
  obtain ⟨_, c_SIGNS⟩ := T.c_SIGNS
  have e_NoSigns := T.e_NoSigns
  have G_p_is_text := ok_p_is_text (P := P) (w := w) (base := base) T
  exact defAt T.f_p_need_text sc_p_need_text fun X hX hr E tk hp => by
    obtain ⟨f, cdv, A, outer, s0, H, E', rfl⟩ := hX
    exact ⟨_, (sx_one (s_if (pt_no (pt_v (px_call G_p_is_text hr (by decide) tk (pa_c (px_var 0) (pa_c px_int (pa_c (px_globI c_SIGNS) pa_n))))))
    (sx_one (s_raise rfl tk e_NoSigns))
    sx_nil))⟩

theorem ok_p_need_key (T : Txt K mg CA) : DefAt P w K mg base CA 3 "need_key" p_need_key := by
  have nd := sc_p_need_key.nd
  have g_isinstance := T.g_isinstance
  have g_len := T.g_len
  have g_tuple := T.g_tuple
  have e_NoKey := T.e_NoKey
  have G_p_between := ok_p_between (P := P) (w := w) (base := base) T
  exact defAt T.f_p_need_key sc_p_need_key fun X hX hr E tk hp => by
    obtain ⟨f, cdv, A, outer, s0, H, E', rfl⟩ := hX
    exact ⟨_, (sx_cons (s_if (pt_w (pw_o (pt_no (pt_v (px_isi g_isinstance g_tuple (px_var 0)))) (pw_o1 (pt_ne hr (px_len g_len (px_var 0)) px_int))))
    (sx_one (s_raise rfl tk e_NoKey))
    sx_nil)
    (sx_one (s_if (pt_w (pw_o (pt_no (pt_v (px_call G_p_between hr (by decide) tk (pa_c (px_ix (px_var 0) px_int) (pa_c px_int (pa_c px_int pa_n)))))) (pw_o (pt_no (pt_v (px_call G_p_between hr (by decide) tk (pa_c (px_ix (px_var 0) px_int) (pa_c px_int (pa_c px_int pa_n)))))) (pw_o1 (pt_no (pt_v (px_call G_p_between hr (by decide) tk (pa_c (px_ix (px_var 0) px_int) (pa_c px_int (pa_c px_int pa_n))))))))))
    (sx_one (s_raise rfl tk e_NoKey))
    sx_nil)))⟩

theorem ok_p_need_size (T : Txt K mg CA) : DefAt P w K mg base CA 3 "need_size" p_need_size := by
  have nd := sc_p_need_size.nd
  obtain ⟨_, c_SIZE⟩ := T.c_SIZE
  have e_NoSize := T.e_NoSize
  have G_p_between := ok_p_between (P := P) (w := w) (base := base) T
  exact defAt T.f_p_need_size sc_p_need_size fun X hX hr E tk hp => by
    obtain ⟨f, cdv, A, outer, s0, H, E', rfl⟩ := hX
    exact ⟨_, (sx_one (s_if (pt_no (pt_v (px_call G_p_between hr (by decide) tk (pa_c (px_var 0) (pa_c px_int (pa_c (px_globI c_SIZE) pa_n))))))
    (sx_one (s_raise rfl tk e_NoSize))
    sx_nil))⟩

theorem ok_p_first_of (T : Txt K mg CA) : DefAt P w K mg base CA 2 "first_of" p_first_of := by
  have nd := sc_p_first_of.nd
  have G_p_worth := ok_p_worth (P := P) (w := w) (base := base) T
  exact defAt T.f_p_first_of sc_p_first_of fun X hX hr E tk hp => by
    obtain ⟨f, cdv, A, outer, s0, H, E', rfl⟩ := hX
    exact ⟨_, (sx_cons (s_set 2 nd px_int)
    (sx_cons (s_set 3 nd px_int)
    (sx_cons (s_for hp rfl (pix_s (px_var 1)) (pgx_n 4 nd)
    (sx_cons (s_set 2 nd (px_add (px_var 2) (px_call G_p_worth hr (by decide) tk (pa_c (px_var 4) pa_n))))
    (sx_one (s_set 3 nd (px_add (px_var 3) (px_var 2))))))
    (sx_one (s_ret (px_tup (pa_c (px_mod (px_var 2) (px_ix (px_var 0) px_int)) (pa_c (px_mod (px_var 3) (px_ix (px_var 0) px_int)) pa_n))))))))⟩

theorem ok_p_next_sum (T : Txt K mg CA) : DefAt P w K mg base CA 2 "next_sum" p_next_sum := by
  have nd := sc_p_next_sum.nd
  have G_p_worth := ok_p_worth (P := P) (w := w) (base := base) T
  exact defAt T.f_p_next_sum sc_p_next_sum fun X hX hr E tk hp => by
    obtain ⟨f, cdv, A, outer, s0, H, E', rfl⟩ := hX
    exact ⟨_, (sx_cons (s_set 5 nd (px_add (px_sub (px_ix (px_var 1) px_int) (px_call G_p_worth hr (by decide) tk (pa_c (px_var 3) pa_n))) (px_call G_p_worth hr (by decide) tk (pa_c (px_var 4) pa_n))))
    (sx_cons (s_set 6 nd (px_add (px_sub (px_ix (px_var 1) px_int) (px_mul (px_var 2) (px_call G_p_worth hr (by decide) tk (pa_c (px_var 3) pa_n)))) (px_var 5)))
    (sx_one (s_ret (px_tup (pa_c (px_mod (px_var 5) (px_ix (px_var 0) px_int)) (pa_c (px_mod (px_var 6) (px_ix (px_var 0) px_int)) pa_n)))))))⟩

theorem ok_p_places_of (T : Txt K mg CA) : DefAt P w K mg base CA 3 "places_of" p_places_of := by
  have nd := sc_p_places_of.nd
  have g_len := T.g_len
  have g_range := T.g_range
  have g_sum := T.g_sum
  have G_p_first_of := ok_p_first_of (P := P) (w := w) (base := base) T
  have G_p_next_sum := ok_p_next_sum (P := P) (w := w) (base := base) T
  exact defAt T.f_p_places_of sc_p_places_of fun X hX hr E tk hp => by
    obtain ⟨f, cdv, A, outer, s0, H, E', rfl⟩ := hX
    exact ⟨_, (sx_cons (s_setM 4 nd (px_lst pa_n))
    (sx_cons (s_if (pt_lt (px_len g_len (px_var 3)) (px_var 1))
    (sx_one (s_retV 4 (px_var 4)))
    sx_nil)
    (sx_cons (s_set 5 nd (px_call G_p_first_of hr (by decide) tk (pa_c (px_var 0) (pa_c (px_sl (px_var 3) po_no (po_yes (px_var 1))) pa_n))))
    (sx_cons (s_for hp rfl (pix_r2 g_range (px_var 1) (px_add (px_len g_len (px_var 3)) px_int)) (pgx_n 6 nd)
    (sx_cons (s_if (pt_gt (px_var 6) (px_var 1))
    (sx_one (s_set 5 nd (px_call G_p_next_sum hr (by decide) tk (pa_c (px_var 0) (pa_c (px_var 5) (pa_c (px_var 1) (pa_c (px_ix (px_var 3) (px_sub (px_sub (px_var 6) (px_var 1)) px_int)) (pa_c (px_ix (px_var 3) (px_sub (px_var 6) px_int)) pa_n))))))))
    sx_nil)
    (sx_one (s_if (pt_eq hr (px_mod (px_sumT rfl g_sum (px_var 5)) (px_var 2)) px_int)
    (sx_one (s_app 4 (px_var 4) (px_var 6)))
    sx_nil))))
    (sx_one (s_retV 4 (px_var 4)))))))⟩

theorem ok_p_need_all (T : Txt K mg CA) : DefAt P w K mg base CA 4 "need_all" p_need_all := by
  have nd := sc_p_need_all.nd
  have G_p_need_key := ok_p_need_key (P := P) (w := w) (base := base) T
  have G_p_need_size := ok_p_need_size (P := P) (w := w) (base := base) T
  exact defAt T.f_p_need_all sc_p_need_all fun X hX hr E tk hp => by
    obtain ⟨f, cdv, A, outer, s0, H, E', rfl⟩ := hX
    exact ⟨_, (sx_cons (s_exp (px_call G_p_need_key hr (by decide) tk (pa_c (px_var 0) pa_n)))
    (sx_cons (s_exp (px_call G_p_need_size hr (by decide) tk (pa_c (px_var 1) pa_n)))
    (sx_one (s_exp (px_call G_p_need_size hr (by decide) tk (pa_c (px_var 2) pa_n))))))⟩

theorem ok_p_cut_places (T : Txt K mg CA) : DefAt P w K mg base CA 5 "cut_places" p_cut_places := by
  have nd := sc_p_cut_places.nd
  have G_p_need_all := ok_p_need_all (P := P) (w := w) (base := base) T
  have G_p_need_text := ok_p_need_text (P := P) (w := w) (base := base) T
  have G_p_places_of := ok_p_places_of (P := P) (w := w) (base := base) T
  exact defAt T.f_p_cut_places sc_p_cut_places fun X hX hr E tk hp => by
    obtain ⟨f, cdv, A, outer, s0, H, E', rfl⟩ := hX
    exact ⟨_, (sx_cons (s_exp (px_call G_p_need_all hr (by decide) tk (pa_c (px_var 0) (pa_c (px_var 1) (pa_c (px_var 2) pa_n)))))
    (sx_cons (s_exp (px_call G_p_need_text hr (by decide) tk (pa_c (px_var 3) pa_n)))
    (sx_one (s_ret (px_call G_p_places_of hr (by decide) tk (pa_c (px_var 0) (pa_c (px_var 1) (pa_c (px_var 2) (pa_c (px_var 3) pa_n)))))))))⟩

theorem ok_p_parts_of (T : Txt K mg CA) : DefAt P w K mg base CA 4 "parts_of" p_parts_of := by
  have nd := sc_p_parts_of.nd
  have g_len := T.g_len
  have G_p_places_of := ok_p_places_of (P := P) (w := w) (base := base) T
  exact defAt T.f_p_parts_of sc_p_parts_of fun X hX hr E tk hp => by
    obtain ⟨f, cdv, A, outer, s0, H, E', rfl⟩ := hX
    exact ⟨_, (sx_cons (s_setM 4 nd (px_lst pa_n))
    (sx_cons (s_set 5 nd px_int)
    (sx_cons (s_for hp rfl (pix_l (px_add (px_call G_p_places_of hr (by decide) tk (pa_c (px_var 0) (pa_c (px_var 1) (pa_c (px_var 2) (pa_c (px_var 3) pa_n))))) (px_lst (pa_c (px_len g_len (px_var 3)) pa_n)))) (pgx_n 6 nd)
    (sx_one (s_if (pt_gt (px_var 6) (px_var 5))
    (sx_cons (s_app 4 (px_var 4) (px_tup (pa_c (px_var 5) (pa_c (px_sl (px_var 3) (po_yes (px_var 5)) (po_yes (px_var 6))) pa_n))))
    (sx_one (s_set 5 nd (px_var 6))))
    sx_nil)))
    (sx_one (s_retV 4 (px_var 4))))))⟩

theorem ok_p_stretches (T : Txt K mg CA) : DefAt P w K mg base CA 5 "stretches" p_stretches := by
  have nd := sc_p_stretches.nd
  have G_p_need_all := ok_p_need_all (P := P) (w := w) (base := base) T
  have G_p_need_text := ok_p_need_text (P := P) (w := w) (base := base) T
  have G_p_parts_of := ok_p_parts_of (P := P) (w := w) (base := base) T
  exact defAt T.f_p_stretches sc_p_stretches fun X hX hr E tk hp => by
    obtain ⟨f, cdv, A, outer, s0, H, E', rfl⟩ := hX
    exact ⟨_, (sx_cons (s_exp (px_call G_p_need_all hr (by decide) tk (pa_c (px_var 0) (pa_c (px_var 1) (pa_c (px_var 2) pa_n)))))
    (sx_cons (s_exp (px_call G_p_need_text hr (by decide) tk (pa_c (px_var 3) pa_n)))
    (sx_one (s_ret (px_lc [("place", 4), ("stretch", 5)] rfl nd (pix_l (px_call G_p_parts_of hr (by decide) tk (pa_c (px_var 0) (pa_c (px_var 1) (pa_c (px_var 2) (pa_c (px_var 3) pa_n)))))) (blkOk_by (N := n_p_stretches) (sc := defScope s_p_stretches) (by decide +kernel)) rfl (fun _ _ _ _ _ => (pgx_2 4 5 rfl nd)) (fun _ _ _ _ _ => pts_n) (fun _ _ _ _ _ => (px_var 5)))))))⟩

theorem ok_q_cell_at (T : Txt K mg CA) : DefAt P w K mg base CA 1 "_law_cell_at" q_cell_at := by
  have nd := sc_q_cell_at.nd
  have g_len := T.g_len
  exact defAt T.f_q_cell_at sc_q_cell_at fun X hX hr E tk hp => by
    obtain ⟨f, cdv, A, outer, s0, H, E', rfl⟩ := hX
    exact ⟨_, (sx_cons (s_if (pt_lt (px_var 1) (px_len g_len (px_var 0)))
    (sx_one (s_ret (px_ix (px_var 0) (px_var 1))))
    sx_nil)
    (sx_cons (s_if (pt_eq hr (px_var 0) (px_lst pa_n))
    (sx_one (s_ret px_int))
    sx_nil)
    (sx_one (s_ret (px_add (px_mul (px_ix (px_var 0) (px_mod (px_var 1) (px_len g_len (px_var 0)))) px_int) (px_var 1))))))⟩

theorem ok_q_mixed (T : Txt K mg CA) : DefAt P w K mg base CA 2 "_law_mixed" q_mixed := by
  have nd := sc_q_mixed.nd
  have G_q_cell_at := ok_q_cell_at (P := P) (w := w) (base := base) T
  exact defAt T.f_q_mixed sc_q_mixed fun X hX hr E tk hp => by
    obtain ⟨f, cdv, A, outer, s0, H, E', rfl⟩ := hX
    exact ⟨_, (sx_cons (s_set 3 nd (px_mod (px_mul (px_add (px_add (px_call G_q_cell_at hr (by decide) tk (pa_c (px_var 0) (pa_c (px_var 1) pa_n))) (px_mul px_int (px_var 1))) px_int) px_int) px_int))
    (sx_one (s_ret (px_mod (px_mod (px_add (px_add (px_mul (px_var 3) (px_var 3)) (px_mul px_int (px_var 3))) (px_var 1)) px_int) (px_var 2)))))⟩

theorem ok_q_text (T : Txt K mg CA) : DefAt P w K mg base CA 3 "_law_text" q_text := by
  have nd := sc_q_text.nd
  have g_len := T.g_len
  have g_range := T.g_range
  have G_q_mixed := ok_q_mixed (P := P) (w := w) (base := base) T
  exact defAt T.f_q_text sc_q_text fun X hX hr E tk hp => by
    obtain ⟨f, cdv, A, outer, s0, H, E', rfl⟩ := hX
    exact ⟨_, (sx_cons (s_set 3 nd (px_ix (px_lst (pa_c (px_str [97]) (pa_c (px_str [97, 98]) (pa_c (px_str [97, 98]) (pa_c (px_str [97, 98, 99]) (pa_c (px_str [32, 126, 33, 38, 98, 122, 65, 90, 48, 57]) pa_n)))))) (px_call G_q_mixed hr (by decide) tk (pa_c (px_var 0) (pa_c (px_var 1) (pa_c px_int pa_n))))))
    (sx_cons (s_set 4 nd (px_call G_q_mixed hr (by decide) tk (pa_c (px_var 0) (pa_c (px_add (px_var 1) px_int) (pa_c (px_pow px_int px_int) pa_n)))))
    (sx_cons (s_set 5 nd (px_str []))
    (sx_cons (s_for hp rfl (pix_r1 g_range (px_call G_q_mixed hr (by decide) tk (pa_c (px_var 0) (pa_c (px_add (px_var 1) px_int) (pa_c (px_add (px_var 2) px_int) pa_n))))) (pgx_n 6 nd)
    (sx_cons (s_set 7 nd (px_mod (px_mul (px_add (px_add (px_var 4) (px_mul (px_mul px_int (px_var 6)) (px_var 6))) (px_mul px_int (px_var 6))) px_int) px_int))
    (sx_one (s_set 5 nd (px_add (px_var 5) (px_ix (px_var 3) (px_mod (px_div (px_mod (px_mul (px_var 7) (px_add (px_var 7) px_int)) px_int) px_int) (px_len g_len (px_var 3)))))))))
    (sx_one (s_retV 5 (px_var 5)))))))⟩

theorem ok_q_key (T : Txt K mg CA) : DefAt P w K mg base CA 3 "_law_key" q_key := by
  have nd := sc_q_key.nd
  have G_q_mixed := ok_q_mixed (P := P) (w := w) (base := base) T
  exact defAt T.f_q_key sc_q_key fun X hX hr E tk hp => by
    obtain ⟨f, cdv, A, outer, s0, H, E', rfl⟩ := hX
    exact ⟨_, (sx_cons (s_set 2 nd (px_ix (px_lst (pa_c px_int (pa_c px_int (pa_c px_int (pa_c px_int (pa_c px_int (pa_c px_int pa_n))))))) (px_call G_q_mixed hr (by decide) tk (pa_c (px_var 0) (pa_c (px_var 1) (pa_c px_int pa_n))))))
    (sx_cons (s_set 3 nd (px_ix (px_lst (pa_c px_int (pa_c px_int (pa_c px_int (pa_c px_int (pa_c px_int (pa_c px_int pa_n))))))) (px_call G_q_mixed hr (by decide) tk (pa_c (px_var 0) (pa_c (px_add (px_var 1) px_int) (pa_c px_int pa_n))))))
    (sx_one (s_ret (px_tup (pa_c (px_var 2) (pa_c (px_var 3) (pa_c (px_ix (px_lst (pa_c px_int (pa_c px_int (pa_c px_int (pa_c px_int (pa_c px_int (pa_c px_int pa_n))))))) (px_call G_q_mixed hr (by decide) tk (pa_c (px_var 0) (pa_c (px_add (px_var 1) px_int) (pa_c px_int pa_n))))) pa_n))))))))⟩

theorem ok_q_first (T : Txt K mg CA) : DefAt P w K mg base CA 1 "_law_first" q_first := by
  have nd := sc_q_first.nd
  have g_len := T.g_len
  have g_ord := T.g_ord
  have g_range := T.g_range
  have g_sum := T.g_sum
  exact defAt T.f_q_first sc_q_first fun X hX hr E tk hp => by
    obtain ⟨f, cdv, A, outer, s0, H, E', rfl⟩ := hX
    exact ⟨_, (sx_cons (s_set 2 nd (px_sum rfl g_sum (px_lc [("_law_sign", 4)] rfl nd (pix_s (px_var 1)) (blkOk_by (N := n_q_first) (sc := defScope s_q_first) (by decide +kernel)) rfl (fun _ _ _ _ _ => (pgx_n 4 nd)) (fun _ _ _ _ _ => pts_n) (fun _ _ _ _ _ => (px_ord g_ord (px_var 4))))))
    (sx_cons (s_set 3 nd (px_sum rfl g_sum (px_lc [("_law_k", 5)] rfl nd (pix_r1 g_range (px_len g_len (px_var 1))) (blkOk_by (N := n_q_first) (sc := defScope s_q_first) (by decide +kernel)) rfl (fun _ _ _ _ _ => (pgx_n 5 nd)) (fun _ _ _ _ _ => pts_n) (fun _ _ _ _ _ => (px_mul (px_sub (px_len g_len (px_var 1)) (px_var 5)) (px_ord g_ord (px_ix (px_var 1) (px_var 5))))))))
    (sx_one (s_ret (px_tup (pa_c (px_mod (px_var 2) (px_ix (px_var 0) px_int)) (pa_c (px_mod (px_var 3) (px_ix (px_var 0) px_int)) pa_n)))))))⟩

theorem ok_q_cuts (T : Txt K mg CA) : DefAt P w K mg base CA 2 "_law_cuts" q_cuts := by
  have nd := sc_q_cuts.nd
  have g_len := T.g_len
  have g_range := T.g_range
  have g_sum := T.g_sum
  have G_q_first := ok_q_first (P := P) (w := w) (base := base) T
  exact defAt T.f_q_cuts sc_q_cuts fun X hX hr E tk hp => by
    obtain ⟨f, cdv, A, outer, s0, H, E', rfl⟩ := hX
    exact ⟨_, (sx_cons (s_setM 4 nd (px_lst pa_n))
    (sx_cons (s_for hp rfl (pix_r2 g_range (px_var 1) (px_add (px_len g_len (px_var 3)) px_int)) (pgx_n 5 nd)
    (sx_one (s_if (pt_eq hr (px_mod (px_sumT rfl g_sum (px_call G_q_first hr (by decide) tk (pa_c (px_var 0) (pa_c (px_sl (px_var 3) (po_yes (px_sub (px_var 5) (px_var 1))) (po_yes (px_var 5))) pa_n)))) (px_var 2)) px_int)
    (sx_one (s_app 4 (px_var 4) (px_var 5)))
    sx_nil)))
    (sx_one (s_retV 4 (px_var 4)))))⟩

theorem bd_law (T : Txt K mg CA) : Body P w K mg base CA 5 "law" s_law n_law b_law := by
  have nd := sc_law.nd
  have g_isinstance := T.g_isinstance
  have g_len := T.g_len
  have g_list := T.g_list
  have G_q_text := ok_q_text (P := P) (w := w) (base := base) T
  have G_q_key := ok_q_key (P := P) (w := w) (base := base) T
  have G_p_cut_places := ok_p_cut_places (P := P) (w := w) (base := base) T
  have G_p_stretches := ok_p_stretches (P := P) (w := w) (base := base) T
  have G_q_mixed := ok_q_mixed (P := P) (w := w) (base := base) T
  have G_q_cuts := ok_q_cuts (P := P) (w := w) (base := base) T
  exact fun X hX hr E tk hp => by
    obtain ⟨f, cdv, A, outer, s0, H, E', rfl⟩ := hX
    exact ⟨_, (sx_cons (s_set 1 nd (px_call G_q_text hr (by decide) tk (pa_c (px_var 0) (pa_c px_int (pa_c px_int pa_n)))))
    (sx_cons (s_set 2 nd (px_call G_q_key hr (by decide) tk (pa_c (px_var 0) (pa_c px_int pa_n))))
    (sx_cons (s_set 3 nd (px_add px_int (px_call G_q_mixed hr (by decide) tk (pa_c (px_var 0) (pa_c px_int (pa_c px_int pa_n))))))
    (sx_cons (s_set 4 nd (px_add px_int (px_call G_q_mixed hr (by decide) tk (pa_c (px_var 0) (pa_c px_int (pa_c px_int pa_n))))))
    (sx_cons (s_set 5 nd (px_call G_p_cut_places hr (by decide) tk (pa_c (px_var 2) (pa_c (px_var 3) (pa_c (px_var 4) (pa_c (px_var 1) pa_n))))))
    (sx_cons (s_if (pt_w (pw_o (pt_no (pt_v (px_isi g_isinstance g_list (px_var 5)))) (pw_o1 (pt_ne hr (px_var 5) (px_call G_q_cuts hr (by decide) tk (pa_c (px_var 2) (pa_c (px_var 3) (pa_c (px_var 4) (pa_c (px_var 1) pa_n)))))))))
    (sx_one (s_ret px_bl))
    sx_nil)
    (sx_cons (s_setM 6 nd (px_lst pa_n))
    (sx_cons (s_set 7 nd px_int)
    (sx_cons (s_for hp rfl (pix_l (px_add (px_var 5) (px_lst (pa_c (px_len g_len (px_var 1)) pa_n)))) (pgx_n 8 nd)
    (sx_cons (s_if (pt_gt (px_var 8) (px_var 7))
    (sx_one (s_app 6 (px_var 6) (px_sl (px_var 1) (po_yes (px_var 7)) (po_yes (px_var 8)))))
    sx_nil)
    (sx_one (s_set 7 nd (px_var 8)))))
    (sx_frz 6 (sx_cons (s_set 9 nd (px_call G_p_stretches hr (by decide) tk (pa_c (px_var 2) (pa_c (px_var 3) (pa_c (px_var 4) (pa_c (px_var 1) pa_n))))))
    (sx_one (s_ret (px_a (px_isi g_isinstance g_list (px_var 9)) (px_a (px_eq hr (px_var 9) (px_var 6)) (px_one (px_eq hr (px_join (px_str []) (px_var 9)) (px_var 1))))))))))))))))))⟩

end
theorem law_true : ∀ ns : List Int, ns.length ≤ 63 → fnD 1 n_law.length b_law [.z ns] = some (.d (.b true)) := fun ns _ => law_plain ns
theorem fa_p_is_whole {K : PySem.W.Frag} {h : Heap} {mg : Str → Option Value} (X : K.In h) (G : h.Ns mainGlobals mg) {f : Addr} {oc : Value} {od an : Option Addr} {osl : Array (Option Value)} {kV doc pm cdv ct : Value}
    (a : PySem.W.nsIn K mainGlobals "is_whole" = some (some (.ref f))) (l : K.lookup f = some ⟨oc, od, .func (PySem.W.fnOf "is_whole" "is_whole" (defArgs s_p_is_whole) (defBody s_p_is_whole) (defScope s_p_is_whole) .none kV doc pm an cdv ct), osl⟩) (c : PySem.W.codeIn K cdv "is_whole" = true) (k : PySem.W.keepIn K (.ref f) = true) :
    FunAt K mg "is_whole" s_p_is_whole ["thing"] := funAt_mk X G (fun _ _ _ _ _ _ us hl => match us, hl with | [_], _ => rfl) a l c k
theorem fa_p_between {K : PySem.W.Frag} {h : Heap} {mg : Str → Option Value} (X : K.In h) (G : h.Ns mainGlobals mg) {f : Addr} {oc : Value} {od an : Option Addr} {osl : Array (Option Value)} {kV doc pm cdv ct : Value}
    (a : PySem.W.nsIn K mainGlobals "between" = some (some (.ref f))) (l : K.lookup f = some ⟨oc, od, .func (PySem.W.fnOf "between" "between" (defArgs s_p_between) (defBody s_p_between) (defScope s_p_between) .none kV doc pm an cdv ct), osl⟩) (c : PySem.W.codeIn K cdv "between" = true) (k : PySem.W.keepIn K (.ref f) = true) :
    FunAt K mg "between" s_p_between ["thing", "low", "most"] := funAt_mk X G (fun _ _ _ _ _ _ us hl => match us, hl with | [_, _, _], _ => rfl) a l c k
theorem fa_p_worth {K : PySem.W.Frag} {h : Heap} {mg : Str → Option Value} (X : K.In h) (G : h.Ns mainGlobals mg) {f : Addr} {oc : Value} {od an : Option Addr} {osl : Array (Option Value)} {kV doc pm cdv ct : Value}
    (a : PySem.W.nsIn K mainGlobals "worth" = some (some (.ref f))) (l : K.lookup f = some ⟨oc, od, .func (PySem.W.fnOf "worth" "worth" (defArgs s_p_worth) (defBody s_p_worth) (defScope s_p_worth) .none kV doc pm an cdv ct), osl⟩) (c : PySem.W.codeIn K cdv "worth" = true) (k : PySem.W.keepIn K (.ref f) = true) :
    FunAt K mg "worth" s_p_worth ["sign"] := funAt_mk X G (fun _ _ _ _ _ _ us hl => match us, hl with | [_], _ => rfl) a l c k
theorem fa_p_is_text {K : PySem.W.Frag} {h : Heap} {mg : Str → Option Value} (X : K.In h) (G : h.Ns mainGlobals mg) {f : Addr} {oc : Value} {od an : Option Addr} {osl : Array (Option Value)} {kV doc pm cdv ct : Value}
    (a : PySem.W.nsIn K mainGlobals "is_text" = some (some (.ref f))) (l : K.lookup f = some ⟨oc, od, .func (PySem.W.fnOf "is_text" "is_text" (defArgs s_p_is_text) (defBody s_p_is_text) (defScope s_p_is_text) .none kV doc pm an cdv ct), osl⟩) (c : PySem.W.codeIn K cdv "is_text" = true) (k : PySem.W.keepIn K (.ref f) = true) :
    FunAt K mg "is_text" s_p_is_text ["thing", "least", "most"] := funAt_mk X G (fun _ _ _ _ _ _ us hl => match us, hl with | [_, _, _], _ => rfl) a l c k
theorem fa_p_need_text {K : PySem.W.Frag} {h : Heap} {mg : Str → Option Value} (X : K.In h) (G : h.Ns mainGlobals mg) {f : Addr} {oc : Value} {od an : Option Addr} {osl : Array (Option Value)} {kV doc pm cdv ct : Value}
    (a : PySem.W.nsIn K mainGlobals "need_text" = some (some (.ref f))) (l : K.lookup f = some ⟨oc, od, .func (PySem.W.fnOf "need_text" "need_text" (defArgs s_p_need_text) (defBody s_p_need_text) (defScope s_p_need_text) .none kV doc pm an cdv ct), osl⟩) (c : PySem.W.codeIn K cdv "need_text" = true) (k : PySem.W.keepIn K (.ref f) = true) :
    FunAt K mg "need_text" s_p_need_text ["text"] := funAt_mk X G (fun _ _ _ _ _ _ us hl => match us, hl with | [_], _ => rfl) a l c k
theorem fa_p_need_key {K : PySem.W.Frag} {h : Heap} {mg : Str → Option Value} (X : K.In h) (G : h.Ns mainGlobals mg) {f : Addr} {oc : Value} {od an : Option Addr} {osl : Array (Option Value)} {kV doc pm cdv ct : Value}
    (a : PySem.W.nsIn K mainGlobals "need_key" = some (some (.ref f))) (l : K.lookup f = some ⟨oc, od, .func (PySem.W.fnOf "need_key" "need_key" (defArgs s_p_need_key) (defBody s_p_need_key) (defScope s_p_need_key) .none kV doc pm an cdv ct), osl⟩) (c : PySem.W.codeIn K cdv "need_key" = true) (k : PySem.W.keepIn K (.ref f) = true) :
    FunAt K mg "need_key" s_p_need_key ["key"] := funAt_mk X G (fun _ _ _ _ _ _ us hl => match us, hl with | [_], _ => rfl) a l c k
theorem fa_p_need_size {K : PySem.W.Frag} {h : Heap} {mg : Str → Option Value} (X : K.In h) (G : h.Ns mainGlobals mg) {f : Addr} {oc : Value} {od an : Option Addr} {osl : Array (Option Value)} {kV doc pm cdv ct : Value}
    (a : PySem.W.nsIn K mainGlobals "need_size" = some (some (.ref f))) (l : K.lookup f = some ⟨oc, od, .func (PySem.W.fnOf "need_size" "need_size" (defArgs s_p_need_size) (defBody s_p_need_size) (defScope s_p_need_size) .none kV doc pm an cdv ct), osl⟩) (c : PySem.W.codeIn K cdv "need_size" = true) (k : PySem.W.keepIn K (.ref f) = true) :
    FunAt K mg "need_size" s_p_need_size ["size"] := funAt_mk X G (fun _ _ _ _ _ _ us hl => match us, hl with | [_], _ => rfl) a l c k
theorem fa_p_first_of {K : PySem.W.Frag} {h : Heap} {mg : Str → Option Value} (X : K.In h) (G : h.Ns mainGlobals mg) {f : Addr} {oc : Value} {od an : Option Addr} {osl : Array (Option Value)} {kV doc pm cdv ct : Value}
    (a : PySem.W.nsIn K mainGlobals "first_of" = some (some (.ref f))) (l : K.lookup f = some ⟨oc, od, .func (PySem.W.fnOf "first_of" "first_of" (defArgs s_p_first_of) (defBody s_p_first_of) (defScope s_p_first_of) .none kV doc pm an cdv ct), osl⟩) (c : PySem.W.codeIn K cdv "first_of" = true) (k : PySem.W.keepIn K (.ref f) = true) :
    FunAt K mg "first_of" s_p_first_of ["key", "text"] := funAt_mk X G (fun _ _ _ _ _ _ us hl => match us, hl with | [_, _], _ => rfl) a l c k
theorem fa_p_next_sum {K : PySem.W.Frag} {h : Heap} {mg : Str → Option Value} (X : K.In h) (G : h.Ns mainGlobals mg) {f : Addr} {oc : Value} {od an : Option Addr} {osl : Array (Option Value)} {kV doc pm cdv ct : Value}
    (a : PySem.W.nsIn K mainGlobals "next_sum" = some (some (.ref f))) (l : K.lookup f = some ⟨oc, od, .func (PySem.W.fnOf "next_sum" "next_sum" (defArgs s_p_next_sum) (defBody s_p_next_sum) (defScope s_p_next_sum) .none kV doc pm an cdv ct), osl⟩) (c : PySem.W.codeIn K cdv "next_sum" = true) (k : PySem.W.keepIn K (.ref f) = true) :
    FunAt K mg "next_sum" s_p_next_sum ["key", "found", "many", "gone", "come"] := funAt_mk X G (fun _ _ _ _ _ _ us hl => match us, hl with | [_, _, _, _, _], _ => rfl) a l c k
theorem fa_p_places_of {K : PySem.W.Frag} {h : Heap} {mg : Str → Option Value} (X : K.In h) (G : h.Ns mainGlobals mg) {f : Addr} {oc : Value} {od an : Option Addr} {osl : Array (Option Value)} {kV doc pm cdv ct : Value}
    (a : PySem.W.nsIn K mainGlobals "places_of" = some (some (.ref f))) (l : K.lookup f = some ⟨oc, od, .func (PySem.W.fnOf "places_of" "places_of" (defArgs s_p_places_of) (defBody s_p_places_of) (defScope s_p_places_of) .none kV doc pm an cdv ct), osl⟩) (c : PySem.W.codeIn K cdv "places_of" = true) (k : PySem.W.keepIn K (.ref f) = true) :
    FunAt K mg "places_of" s_p_places_of ["key", "window", "part", "text"] := funAt_mk X G (fun _ _ _ _ _ _ us hl => match us, hl with | [_, _, _, _], _ => rfl) a l c k
theorem fa_p_need_all {K : PySem.W.Frag} {h : Heap} {mg : Str → Option Value} (X : K.In h) (G : h.Ns mainGlobals mg) {f : Addr} {oc : Value} {od an : Option Addr} {osl : Array (Option Value)} {kV doc pm cdv ct : Value}
    (a : PySem.W.nsIn K mainGlobals "need_all" = some (some (.ref f))) (l : K.lookup f = some ⟨oc, od, .func (PySem.W.fnOf "need_all" "need_all" (defArgs s_p_need_all) (defBody s_p_need_all) (defScope s_p_need_all) .none kV doc pm an cdv ct), osl⟩) (c : PySem.W.codeIn K cdv "need_all" = true) (k : PySem.W.keepIn K (.ref f) = true) :
    FunAt K mg "need_all" s_p_need_all ["key", "window", "part"] := funAt_mk X G (fun _ _ _ _ _ _ us hl => match us, hl with | [_, _, _], _ => rfl) a l c k
theorem fa_p_cut_places {K : PySem.W.Frag} {h : Heap} {mg : Str → Option Value} (X : K.In h) (G : h.Ns mainGlobals mg) {f : Addr} {oc : Value} {od an : Option Addr} {osl : Array (Option Value)} {kV doc pm cdv ct : Value}
    (a : PySem.W.nsIn K mainGlobals "cut_places" = some (some (.ref f))) (l : K.lookup f = some ⟨oc, od, .func (PySem.W.fnOf "cut_places" "cut_places" (defArgs s_p_cut_places) (defBody s_p_cut_places) (defScope s_p_cut_places) .none kV doc pm an cdv ct), osl⟩) (c : PySem.W.codeIn K cdv "cut_places" = true) (k : PySem.W.keepIn K (.ref f) = true) :
    FunAt K mg "cut_places" s_p_cut_places ["key", "window", "part", "text"] := funAt_mk X G (fun _ _ _ _ _ _ us hl => match us, hl with | [_, _, _, _], _ => rfl) a l c k
theorem fa_p_parts_of {K : PySem.W.Frag} {h : Heap} {mg : Str → Option Value} (X : K.In h) (G : h.Ns mainGlobals mg) {f : Addr} {oc : Value} {od an : Option Addr} {osl : Array (Option Value)} {kV doc pm cdv ct : Value}
    (a : PySem.W.nsIn K mainGlobals "parts_of" = some (some (.ref f))) (l : K.lookup f = some ⟨oc, od, .func (PySem.W.fnOf "parts_of" "parts_of" (defArgs s_p_parts_of) (defBody s_p_parts_of) (defScope s_p_parts_of) .none kV doc pm an cdv ct), osl⟩) (c : PySem.W.codeIn K cdv "parts_of" = true) (k : PySem.W.keepIn K (.ref f) = true) :
    FunAt K mg "parts_of" s_p_parts_of ["key", "window", "part", "text"] := funAt_mk X G (fun _ _ _ _ _ _ us hl => match us, hl with | [_, _, _, _], _ => rfl) a l c k
theorem fa_p_stretches {K : PySem.W.Frag} {h : Heap} {mg : Str → Option Value} (X : K.In h) (G : h.Ns mainGlobals mg) {f : Addr} {oc : Value} {od an : Option Addr} {osl : Array (Option Value)} {kV doc pm cdv ct : Value}
    (a : PySem.W.nsIn K mainGlobals "stretches" = some (some (.ref f))) (l : K.lookup f = some ⟨oc, od, .func (PySem.W.fnOf "stretches" "stretches" (defArgs s_p_stretches) (defBody s_p_stretches) (defScope s_p_stretches) .none kV doc pm an cdv ct), osl⟩) (c : PySem.W.codeIn K cdv "stretches" = true) (k : PySem.W.keepIn K (.ref f) = true) :
    FunAt K mg "stretches" s_p_stretches ["key", "window", "part", "text"] := funAt_mk X G (fun _ _ _ _ _ _ us hl => match us, hl with | [_, _, _, _], _ => rfl) a l c k
theorem fa_q_cell_at {K : PySem.W.Frag} {h : Heap} {mg : Str → Option Value} (X : K.In h) (G : h.Ns mainGlobals mg) {f : Addr} {oc : Value} {od an : Option Addr} {osl : Array (Option Value)} {kV doc pm cdv ct : Value}
    (a : PySem.W.nsIn K mainGlobals "_law_cell_at" = some (some (.ref f))) (l : K.lookup f = some ⟨oc, od, .func (PySem.W.fnOf "_law_cell_at" "_law_cell_at" (defArgs s_q_cell_at) (defBody s_q_cell_at) (defScope s_q_cell_at) .none kV doc pm an cdv ct), osl⟩) (c : PySem.W.codeIn K cdv "_law_cell_at" = true) (k : PySem.W.keepIn K (.ref f) = true) :
    FunAt K mg "_law_cell_at" s_q_cell_at ["_law_script", "_law_k"] := funAt_mk X G (fun _ _ _ _ _ _ us hl => match us, hl with | [_, _], _ => rfl) a l c k
theorem fa_q_mixed {K : PySem.W.Frag} {h : Heap} {mg : Str → Option Value} (X : K.In h) (G : h.Ns mainGlobals mg) {f : Addr} {oc : Value} {od an : Option Addr} {osl : Array (Option Value)} {kV doc pm cdv ct : Value}
    (a : PySem.W.nsIn K mainGlobals "_law_mixed" = some (some (.ref f))) (l : K.lookup f = some ⟨oc, od, .func (PySem.W.fnOf "_law_mixed" "_law_mixed" (defArgs s_q_mixed) (defBody s_q_mixed) (defScope s_q_mixed) .none kV doc pm an cdv ct), osl⟩) (c : PySem.W.codeIn K cdv "_law_mixed" = true) (k : PySem.W.keepIn K (.ref f) = true) :
    FunAt K mg "_law_mixed" s_q_mixed ["_law_script", "_law_k", "_law_many"] := funAt_mk X G (fun _ _ _ _ _ _ us hl => match us, hl with | [_, _, _], _ => rfl) a l c k
theorem fa_q_text {K : PySem.W.Frag} {h : Heap} {mg : Str → Option Value} (X : K.In h) (G : h.Ns mainGlobals mg) {f : Addr} {oc : Value} {od an : Option Addr} {osl : Array (Option Value)} {kV doc pm cdv ct : Value}
    (a : PySem.W.nsIn K mainGlobals "_law_text" = some (some (.ref f))) (l : K.lookup f = some ⟨oc, od, .func (PySem.W.fnOf "_law_text" "_law_text" (defArgs s_q_text) (defBody s_q_text) (defScope s_q_text) .none kV doc pm an cdv ct), osl⟩) (c : PySem.W.codeIn K cdv "_law_text" = true) (k : PySem.W.keepIn K (.ref f) = true) :
    FunAt K mg "_law_text" s_q_text ["_law_script", "_law_at", "_law_most"] := funAt_mk X G (fun _ _ _ _ _ _ us hl => match us, hl with | [_, _, _], _ => rfl) a l c k
theorem fa_q_key {K : PySem.W.Frag} {h : Heap} {mg : Str → Option Value} (X : K.In h) (G : h.Ns mainGlobals mg) {f : Addr} {oc : Value} {od an : Option Addr} {osl : Array (Option Value)} {kV doc pm cdv ct : Value}
    (a : PySem.W.nsIn K mainGlobals "_law_key" = some (some (.ref f))) (l : K.lookup f = some ⟨oc, od, .func (PySem.W.fnOf "_law_key" "_law_key" (defArgs s_q_key) (defBody s_q_key) (defScope s_q_key) .none kV doc pm an cdv ct), osl⟩) (c : PySem.W.codeIn K cdv "_law_key" = true) (k : PySem.W.keepIn K (.ref f) = true) :
    FunAt K mg "_law_key" s_q_key ["_law_script", "_law_at"] := funAt_mk X G (fun _ _ _ _ _ _ us hl => match us, hl with | [_, _], _ => rfl) a l c k
theorem fa_q_first {K : PySem.W.Frag} {h : Heap} {mg : Str → Option Value} (X : K.In h) (G : h.Ns mainGlobals mg) {f : Addr} {oc : Value} {od an : Option Addr} {osl : Array (Option Value)} {kV doc pm cdv ct : Value}
    (a : PySem.W.nsIn K mainGlobals "_law_first" = some (some (.ref f))) (l : K.lookup f = some ⟨oc, od, .func (PySem.W.fnOf "_law_first" "_law_first" (defArgs s_q_first) (defBody s_q_first) (defScope s_q_first) .none kV doc pm an cdv ct), osl⟩) (c : PySem.W.codeIn K cdv "_law_first" = true) (k : PySem.W.keepIn K (.ref f) = true) :
    FunAt K mg "_law_first" s_q_first ["_law_key_here", "_law_text_here"] := funAt_mk X G (fun _ _ _ _ _ _ us hl => match us, hl with | [_, _], _ => rfl) a l c k
theorem fa_q_cuts {K : PySem.W.Frag} {h : Heap} {mg : Str → Option Value} (X : K.In h) (G : h.Ns mainGlobals mg) {f : Addr} {oc : Value} {od an : Option Addr} {osl : Array (Option Value)} {kV doc pm cdv ct : Value}
    (a : PySem.W.nsIn K mainGlobals "_law_cuts" = some (some (.ref f))) (l : K.lookup f = some ⟨oc, od, .func (PySem.W.fnOf "_law_cuts" "_law_cuts" (defArgs s_q_cuts) (defBody s_q_cuts) (defScope s_q_cuts) .none kV doc pm an cdv ct), osl⟩) (c : PySem.W.codeIn K cdv "_law_cuts" = true) (k : PySem.W.keepIn K (.ref f) = true) :
    FunAt K mg "_law_cuts" s_q_cuts ["_law_key_here", "_law_window", "_law_part", "_law_text_here"] := funAt_mk X G (fun _ _ _ _ _ _ us hl => match us, hl with | [_, _, _, _], _ => rfl) a l c k
theorem la_law {K : PySem.W.Frag} {h : Heap} {mg : Str → Option Value} (X : K.In h) (G : h.Ns mainGlobals mg) {fa f : Addr} {oc : Value} {od an : Option Addr} {osl : Array (Option Value)} {kV doc pm cdv ct : Value} (hfa : mg "law" = some (.ref fa))
    (a : PySem.W.nsIn K mainGlobals "law" = some (some (.ref f))) (l : K.lookup f = some ⟨oc, od, .func (PySem.W.fnOf "law" "law" (defArgs s_law) (defBody s_law) (defScope s_law) .none kV doc pm an cdv ct), osl⟩) (c : PySem.W.codeIn K cdv "law" = true) (k : PySem.W.keepIn K (.ref f) = true) :
    ∃ fd : FuncData, Fun K "law" "law" s_law fa fd ∧ (∀ (s : Shared) (u : Value), BindsTo s fd ⟨[u], []⟩ [("_law_script", u)]) := by
  have e := hfa.symm.trans (PySem.W.mg_of X G a)
  cases e
  exact ⟨_, fun_mk l c k, fun s u => .of_eq rfl⟩
end DD
open PySem PySem.W PyProof.Rows
set_option maxRecDepth 100000 in
set_option maxHeartbeats 0 in
theorem PySem.Challenge.cw_rollmend_k13_cuts_holds : PySem.Challenge.rw_rollmend_k13_cuts.Holds := by
  w_on; o_law; k_head; (case hw => w_witness2)
  k_fill
  refine DD.law_end (l := PySem.Challenge.rw_rollmend_k13_cuts) (st := DD.s_law) (N := DD.n_law) (s := DD.b_law) (k := 5) (x := "_law_script") rfl rfl ⟨rfl, by decide, by decide⟩ (fun w h Y => PySem.W.kIn_of Y) DD.sc_law DD.law_true ?F
  case F =>
    intro w mg fa h KX G hmg
    have f_law := by
      refine' DD.la_law KX G hmg ?za ?zl ?zc ?zk
      (case za => k_is); (case zl => k_is); (case zc => k_is); (case zk => k_is)
    have f_p_is_whole := by
      refine' DD.fa_p_is_whole KX G ?za ?zl ?zc ?zk
      (case za => k_is); (case zl => k_is); (case zc => k_is); (case zk => k_is)
    have f_p_between := by
      refine' DD.fa_p_between KX G ?za ?zl ?zc ?zk
      (case za => k_is); (case zl => k_is); (case zc => k_is); (case zk => k_is)
    have f_p_worth := by
      refine' DD.fa_p_worth KX G ?za ?zl ?zc ?zk
      (case za => k_is); (case zl => k_is); (case zc => k_is); (case zk => k_is)
    have f_p_is_text := by
      refine' DD.fa_p_is_text KX G ?za ?zl ?zc ?zk
      (case za => k_is); (case zl => k_is); (case zc => k_is); (case zk => k_is)
    have f_p_need_text := by
      refine' DD.fa_p_need_text KX G ?za ?zl ?zc ?zk
      (case za => k_is); (case zl => k_is); (case zc => k_is); (case zk => k_is)
    have f_p_need_key := by
      refine' DD.fa_p_need_key KX G ?za ?zl ?zc ?zk
      (case za => k_is); (case zl => k_is); (case zc => k_is); (case zk => k_is)
    have f_p_need_size := by
      refine' DD.fa_p_need_size KX G ?za ?zl ?zc ?zk
      (case za => k_is); (case zl => k_is); (case zc => k_is); (case zk => k_is)
    have f_p_first_of := by
      refine' DD.fa_p_first_of KX G ?za ?zl ?zc ?zk
      (case za => k_is); (case zl => k_is); (case zc => k_is); (case zk => k_is)
    have f_p_next_sum := by
      refine' DD.fa_p_next_sum KX G ?za ?zl ?zc ?zk
      (case za => k_is); (case zl => k_is); (case zc => k_is); (case zk => k_is)
    have f_p_places_of := by
      refine' DD.fa_p_places_of KX G ?za ?zl ?zc ?zk
      (case za => k_is); (case zl => k_is); (case zc => k_is); (case zk => k_is)
    have f_p_need_all := by
      refine' DD.fa_p_need_all KX G ?za ?zl ?zc ?zk
      (case za => k_is); (case zl => k_is); (case zc => k_is); (case zk => k_is)
    have f_p_cut_places := by
      refine' DD.fa_p_cut_places KX G ?za ?zl ?zc ?zk
      (case za => k_is); (case zl => k_is); (case zc => k_is); (case zk => k_is)
    have f_p_parts_of := by
      refine' DD.fa_p_parts_of KX G ?za ?zl ?zc ?zk
      (case za => k_is); (case zl => k_is); (case zc => k_is); (case zk => k_is)
    have f_p_stretches := by
      refine' DD.fa_p_stretches KX G ?za ?zl ?zc ?zk
      (case za => k_is); (case zl => k_is); (case zc => k_is); (case zk => k_is)
    have f_q_cell_at := by
      refine' DD.fa_q_cell_at KX G ?za ?zl ?zc ?zk
      (case za => k_is); (case zl => k_is); (case zc => k_is); (case zk => k_is)
    have f_q_mixed := by
      refine' DD.fa_q_mixed KX G ?za ?zl ?zc ?zk
      (case za => k_is); (case zl => k_is); (case zc => k_is); (case zk => k_is)
    have f_q_text := by
      refine' DD.fa_q_text KX G ?za ?zl ?zc ?zk
      (case za => k_is); (case zl => k_is); (case zc => k_is); (case zk => k_is)
    have f_q_key := by
      refine' DD.fa_q_key KX G ?za ?zl ?zc ?zk
      (case za => k_is); (case zl => k_is); (case zc => k_is); (case zk => k_is)
    have f_q_first := by
      refine' DD.fa_q_first KX G ?za ?zl ?zc ?zk
      (case za => k_is); (case zl => k_is); (case zc => k_is); (case zk => k_is)
    have f_q_cuts := by
      refine' DD.fa_q_cuts KX G ?za ?zl ?zc ?zk
      (case za => k_is); (case zl => k_is); (case zc => k_is); (case zk => k_is)
    have g_all := by
      refine' DD.noneAt KX G "all" ?za
      (case za => k_is)
    have g_bool := by
      refine' DD.noneAt KX G "bool" ?za
      (case za => k_is)
    have g_int := by
      refine' DD.noneAt KX G "int" ?za
      (case za => k_is)
    have g_isinstance := by
      refine' DD.noneAt KX G "isinstance" ?za
      (case za => k_is)
    have g_len := by
      refine' DD.noneAt KX G "len" ?za
      (case za => k_is)
    have g_list := by
      refine' DD.noneAt KX G "list" ?za
      (case za => k_is)
    have g_ord := by
      refine' DD.noneAt KX G "ord" ?za
      (case za => k_is)
    have g_range := by
      refine' DD.noneAt KX G "range" ?za
      (case za => k_is)
    have g_str := by
      refine' DD.noneAt KX G "str" ?za
      (case za => k_is)
    have g_sum := by
      refine' DD.noneAt KX G "sum" ?za
      (case za => k_is)
    have g_tuple := by
      refine' DD.noneAt KX G "tuple" ?za
      (case za => k_is)
    have c_SIGNS := by
      refine' DD.intAt KX G "SIGNS" ?za
      (case za => k_is)
    have c_SIZE := by
      refine' DD.intAt KX G "SIZE" ?za
      (case za => k_is)
    have e_NoKey := by
      refine' DD.errAt_mk (x := "NoKey") KX G ?za ?zq ?zk ?zb ?zt
      (case za => k_is); (case zq => k_exc); (case zk => k_is); (case zb => k_is); (case zt => k_is)
    obtain ⟨C_NoKey, e_NoKey⟩ := e_NoKey
    have e_NoSigns := by
      refine' DD.errAt_mk (x := "NoSigns") KX G ?za ?zq ?zk ?zb ?zt
      (case za => k_is); (case zq => k_exc); (case zk => k_is); (case zb => k_is); (case zt => k_is)
    obtain ⟨C_NoSigns, e_NoSigns⟩ := e_NoSigns
    have e_NoSize := by
      refine' DD.errAt_mk (x := "NoSize") KX G ?za ?zq ?zk ?zb ?zt
      (case za => k_is); (case zq => k_exc); (case zk => k_is); (case zb => k_is); (case zt => k_is)
    obtain ⟨C_NoSize, e_NoSize⟩ := e_NoSize
    obtain ⟨fd, hF, hb⟩ := f_law
    refine ⟨fun c => if c = 2 then C_NoKey else if c = 1 then C_NoSigns else if c = 3 then C_NoSize else 0, fd, hF, hb, fun base X1 G1 => DD.bd_law ?_⟩
    exact { f_p_is_whole := f_p_is_whole, f_p_between := f_p_between, f_p_worth := f_p_worth, f_p_is_text := f_p_is_text, f_p_need_text := f_p_need_text, f_p_need_key := f_p_need_key, f_p_need_size := f_p_need_size, f_p_first_of := f_p_first_of, f_p_next_sum := f_p_next_sum, f_p_places_of := f_p_places_of, f_p_need_all := f_p_need_all, f_p_cut_places := f_p_cut_places, f_p_parts_of := f_p_parts_of, f_p_stretches := f_p_stretches, f_q_cell_at := f_q_cell_at, f_q_mixed := f_q_mixed, f_q_text := f_q_text, f_q_key := f_q_key, f_q_first := f_q_first, f_q_cuts := f_q_cuts, g_all := g_all, g_bool := g_bool, g_int := g_int, g_isinstance := g_isinstance, g_len := g_len, g_list := g_list, g_ord := g_ord, g_range := g_range, g_str := g_str, g_sum := g_sum, g_tuple := g_tuple, c_SIGNS := c_SIGNS, c_SIZE := c_SIZE, e_NoKey := e_NoKey _ _ rfl, e_NoSigns := e_NoSigns _ _ rfl, e_NoSize := e_NoSize _ _ rfl }
