import PyProof.Rows.All
import Wide.All
import OpenK.AllK
import Wide.FinOn
import HandS.ForMost
import HandS.ForExc
import KE.DataEq
import HandS.IsInst
import HandS.RaiseMore
import HandS.More
import HandS.SetKeys
import KE.KeyNested
import HandS.Conv
import HandS.Text
import HandS.Codes
import KE.KTupSum
import PyProof.ListStr
import HandS.ExcIs
import PyProof.StrBlock2
import KE.KDictKeyed
import PyProof.Rows.Globals
import PySem.Challenge.RW_rollmend_k17_lines_refused
set_option Elab.async false
set_option autoImplicit false
set_option linter.all false
set_option maxRecDepth 100000
set_option maxHeartbeats 4000000
/-! data without addresses, and what stands for it in a heap -/
namespace DD
open PySem PySem.Spec PyProof.Rows L2

/-- a dict's key: a text, a tuple of ints, a tuple of such a one and an int -/
inductive DK where
  | s (cs : List Nat) | t (ns : List Int) | c (ns : List Int) (x : Int)
  deriving DecidableEq
/-- .. as the library's key -/
def nk : DK → NestedKey
  | .s cs => .text ⟨cs.toArray⟩
  | .t ns => .tup (ns.map .num)
  | .c ns x => .tup [.tup (ns.map .num), .num x]
def hkN (ns : List Int) : Int := reduceHash (Builtin.Tuple.tupleHashOf (ns.map hashInt))
/-- .. its hash (no text's) -/
def hk : DK → Int
  | .s _ => 0
  | .t ns => hkN ns
  | .c ns x => reduceHash (Builtin.Tuple.tupleHashOf [hkN ns, hashInt x])
/-- the tuple of a key stands at an address -/
def KeyAt (H : Hp) : DK → Addr → Prop
  | .s _, _ => False
  | .t ns, a => H a = some (.tup (ns.map V.int))
  | .c ns x, a => ∃ b, H a = some (.tup [.ref b, .int x]) ∧ H b = some (.tup (ns.map V.int))
def KeysAt (H : Hp) : List DK → List Addr → Prop
  | [], [] => True
  | k :: ks, a :: as => KeyAt H k a ∧ KeysAt H ks as
  | _, _ => False
theorem KeyAt.mono {H H' : Hp} (e : Same H H') {k : DK} {a : Addr} (h : KeyAt H k a) : KeyAt H' k a := by
  cases k with
  | s cs => exact h
  | t ns => exact e _ _ h
  | c ns x => obtain ⟨b, h1, h2⟩ := h; exact ⟨b, e _ _ h1, e _ _ h2⟩
theorem KeysAt.mono {H H' : Hp} (e : Same H H') : ∀ {ks : List DK} {as : List Addr}, KeysAt H ks as → KeysAt H' ks as
  | [], [], _ => trivial
  | _ :: _, _ :: _, ⟨h, r⟩ => ⟨h.mono e, KeysAt.mono e r⟩
  | [], _ :: _, r => r.elim
  | _ :: _, [], r => r.elim
theorem KeysAt.length {H : Hp} : ∀ {ks : List DK} {as : List Addr}, KeysAt H ks as → ks.length = as.length
  | [], [], _ => rfl
  | _ :: _, _ :: _, ⟨_, r⟩ => by simp [KeysAt.length r]
  | [], _ :: _, r => r.elim
  | _ :: _, [], r => r.elim
theorem KeysAt.snoc {H : Hp} {k : DK} {a : Addr} (hk : KeyAt H k a) : ∀ {ks : List DK} {as : List Addr}, KeysAt H ks as → KeysAt H (ks ++ [k]) (as ++ [a])
  | [], [], _ => ⟨hk, trivial⟩
  | _ :: _, _ :: _, ⟨h, r⟩ => ⟨h, KeysAt.snoc hk r⟩
  | [], _ :: _, r => r.elim
  | _ :: _, [], r => r.elim
/-- the entries of such a dict -/
def entN : List DK → List Addr → List Value → List DictEntry
  | k :: ks, a :: as, u :: us => ⟨hk k, .ref a, u⟩ :: entN ks as us
  | _, _, _ => []
/-- the object of such a dict at a -/
def dN (a : Addr) (ks : List DK) (as : List Addr) (ws : List V) : HO := .ext fun h => ∃ (us : List Value) (o : Obj) (es : Array DictEntry) (ep : Nat), Vals ws us ∧ h.get? a = some o ∧ o.ExactDict ∧ o.data = .dict es ep ∧ es.toList = entN ks as us
inductive PV where
  | n | b (x : Bool) | i (x : Int) | s (cs : List Nat) | t (xs : List PV) | l (xs : List PV)
  /-- a list of ints that is read alone (the script) -/
  | z (ns : List Int)
  /-- a dict that is read alone -/
  | q (t : Bool) (ks : List DK) (vs : List PV)

mutual
def toPy : PV → PyData
  | .n => .none
  | .b x => .bool x
  | .i x => .int x
  | .s cs => .str ⟨cs.toArray⟩
  | .t xs => .tuple (toPys xs)
  | .l xs => .list (toPys xs)
  | .z ns => .list (ns.map .int)
  | .q _ _ _ => .none
def toPys : List PV → List PyData
  | [] => []
  | x :: xs => toPy x :: toPys xs
end
mutual
def eqv : PV → PV → Bool
  | .n, .n => true
  | .n, .q _ _ _ => true
  | .q _ _ _, .n => true
  | .q _ _ _, .q _ _ _ => true
  | .b a, .b c => a == c
  | .b a, .i j => (if a then 1 else 0) == j
  | .i i, .b c => i == (if c then 1 else 0)
  | .i i, .i j => i == j
  | .s x, .s y => x == y
  | .l xs, .l ys => eqvs xs ys
  | .t xs, .t ys => eqvs xs ys
  | .z ns, .z ms => PyData.eqvAll (ns.map .int) (ms.map .int)
  | .z ns, .l ys => PyData.eqvAll (ns.map .int) (toPys ys)
  | .l xs, .z ns => PyData.eqvAll (toPys xs) (ns.map .int)
  | _, _ => false
def eqvs : List PV → List PV → Bool
  | [], [] => true
  | x :: xs, y :: ys => eqv x y && eqvs xs ys
  | _, _ => false
end
mutual
def dep : PV → Nat
  | .t xs => deps xs + 1
  | .l xs => deps xs + 1
  | .z ns => PyData.depthAll (ns.map .int) + 1
  | .q _ _ _ => 1000
  | _ => 0
def deps : List PV → Nat
  | [] => 0
  | x :: xs => max (dep x) (deps xs)
end

theorem str_inj (x y : List Nat) : ((⟨x.toArray⟩ : Str) == ⟨y.toArray⟩) = (x == y) := by
  by_cases h : x = y
  · subst h; simp
  · have h' : ¬ (⟨x.toArray⟩ : Str) = ⟨y.toArray⟩ := fun e => h (by injection e with e; simpa using e)
    rw [beq_eq_false_iff_ne.mpr h, beq_eq_false_iff_ne.mpr h']

theorem ints_plain : ∀ ns : List Int, PyData.plainAll (ns.map .int) = true
  | [] => by simp [PyData.plainAll]
  | n :: ns => by simp [PyData.plainAll, PyData.plain, ints_plain ns]
theorem ints_refl : ∀ ns : List Int, PyData.eqvAll (ns.map .int) (ns.map .int) = true
  | [] => by simp [PyData.eqvAll]
  | n :: ns => by simp [PyData.eqvAll, PyData.eqv, ints_refl ns]
theorem ints_depth : ∀ ns : List Int, PyData.depthAll (ns.map .int) = 0
  | [] => by simp [PyData.depthAll]
  | n :: ns => by simp [PyData.depthAll, PyData.depth, ints_depth ns]
mutual
theorem eqv_py : ∀ x y : PV, PyData.eqv (toPy x) (toPy y) = eqv x y
  | .n, y => by cases y <;> simp [toPy, eqv, PyData.eqv]
  | .b _, y => by cases y <;> simp [toPy, eqv, PyData.eqv]
  | .i _, y => by cases y <;> simp [toPy, eqv, PyData.eqv]
  | .s _, y => by cases y <;> simp only [toPy, eqv, PyData.eqv, str_inj]
  | .t xs, y => by
    cases y with
    | t ys => simp only [toPy, eqv, PyData.eqv]; exact eqvs_py xs ys
    | _ => simp [toPy, eqv, PyData.eqv]
  | .l xs, y => by
    cases y with
    | l ys => simp only [toPy, eqv, PyData.eqv]; exact eqvs_py xs ys
    | _ => simp [toPy, eqv, PyData.eqv]
  | .z _, y => by cases y <;> simp [toPy, eqv, PyData.eqv]
  | .q _ _ _, y => by cases y <;> simp [toPy, eqv, PyData.eqv]
theorem eqvs_py : ∀ xs ys : List PV, PyData.eqvAll (toPys xs) (toPys ys) = eqvs xs ys
  | [], [] => by simp [toPys, eqvs, PyData.eqvAll]
  | [], _ :: _ => by simp [toPys, eqvs, PyData.eqvAll]
  | _ :: _, [] => by simp [toPys, eqvs, PyData.eqvAll]
  | x :: xs, y :: ys => by simp only [toPys, eqvs, PyData.eqvAll, eqv_py x y, eqvs_py xs ys]
end
mutual
theorem plain_py : ∀ x : PV, (toPy x).plain = true
  | .n => by simp [toPy, PyData.plain]
  | .b _ => by simp [toPy, PyData.plain]
  | .i _ => by simp [toPy, PyData.plain]
  | .s _ => by simp [toPy, PyData.plain]
  | .t xs => by simp only [toPy, PyData.plain]; exact plains_py xs
  | .l xs => by simp only [toPy, PyData.plain]; exact plains_py xs
  | .z ns => by simp only [toPy, PyData.plain]; exact ints_plain ns
  | .q _ _ _ => by simp [toPy, PyData.plain]
theorem plains_py : ∀ xs : List PV, PyData.plainAll (toPys xs) = true
  | [] => by simp [toPys, PyData.plainAll]
  | x :: xs => by simp only [toPys, PyData.plainAll, plain_py x, plains_py xs, Bool.and_self]
end
mutual
theorem depth_py : ∀ x : PV, (toPy x).depth ≤ dep x
  | .n => by simp [toPy, PyData.depth, dep]
  | .b _ => by simp [toPy, PyData.depth, dep]
  | .i _ => by simp [toPy, PyData.depth, dep]
  | .s _ => by simp [toPy, PyData.depth, dep]
  | .t xs => by
    have := depths_py xs
    simp only [toPy, PyData.depth, dep]
    omega
  | .l xs => by
    have := depths_py xs
    simp only [toPy, PyData.depth, dep]
    omega
  | .z ns => by simp only [toPy, PyData.depth, dep]; omega
  | .q _ _ _ => by simp [toPy, PyData.depth]
theorem depths_py : ∀ xs : List PV, PyData.depthAll (toPys xs) ≤ deps xs
  | [] => by simp [toPys, PyData.depthAll, deps]
  | x :: xs => by
    have := depth_py x
    have := depths_py xs
    simp only [toPys, PyData.depthAll, deps]
    omega
end
mutual
theorem eqv_refl : ∀ x : PV, eqv x x = true
  | .n => by simp [eqv]
  | .b _ => by simp [eqv]
  | .i _ => by simp [eqv]
  | .s _ => by simp [eqv]
  | .t xs => by simp only [eqv]; exact eqvs_refl xs
  | .l xs => by simp only [eqv]; exact eqvs_refl xs
  | .z ns => by simp only [eqv]; exact ints_refl ns
  | .q _ _ _ => by simp [eqv]
theorem eqvs_refl : ∀ xs : List PV, eqvs xs xs = true
  | [] => by simp [eqvs]
  | x :: xs => by simp only [eqvs, eqv_refl x, eqvs_refl xs, Bool.and_self]
end

/-! ### what stands for data -/
/-- the object at a of a dict with the keys ks (texts; t: tuples), the values ws -/
def DictH (H : Hp) (a : Addr) (t : Bool) (o : HO) (ks : List DK) (ws : List V) : Prop := ks.length = ws.length ∧ match t with
  | false => ∃ cs : List (List Nat), ks = cs.map .s ∧ o = .dK ((cs.map fun c => (Sum.inr ⟨c.toArray⟩ : Key)).zip ws)
  | true => (a == sysModules) = false ∧ ks.Nodup ∧ ∃ as : List Addr, KeysAt H ks as ∧ o = dN a ks as ws
theorem DictH.mono {H H' : Hp} (e : Same H H') {a : Addr} {t : Bool} {o : HO} {ks : List DK} {ws : List V} (h : DictH H a t o ks ws) : DictH H' a t o ks ws := by
  cases t with
  | false => exact h
  | true =>
    obtain ⟨h1, h2, h3, as, h4, h5⟩ := h
    exact ⟨h1, h2, h3, as, h4.mono e, h5⟩
mutual
inductive Dat (K : PySem.W.Frag) (H : Hp) : V → PV → Prop
  | n : Dat K H .non .n
  | b (x : Bool) : Dat K H (.bl x) (.b x)
  | i (x : Int) : Dat K H (.int x) (.i x)
  | s (cs : List Nat) : Dat K H (.str ⟨cs.toArray⟩) (.s cs)
  | t {a : Addr} {vs : List V} {xs : List PV} : H a = some (.tup vs) → Dats K H vs xs → Dat K H (.ref a) (.t xs)
  | l {a : Addr} {vs : List V} {xs : List PV} : H a = some (.lst vs) → Dats K H vs xs → Dat K H (.ref a) (.l xs)
  | z {a : Addr} (ns : List Int) : SqL K H a (ns.map V.int) → Dat K H (.ref a) (.z ns)
  | q {a : Addr} {o : HO} {t : Bool} {ks : List DK} {ws : List V} {xs : List PV} : H a = some o → DictH H a t o ks ws → Dats K H ws xs → Dat K H (.ref a) (.q t ks xs)
inductive Dats (K : PySem.W.Frag) (H : Hp) : List V → List PV → Prop
  | nil : Dats K H [] []
  | cons {v : V} {vs : List V} {x : PV} {xs : List PV} : Dat K H v x → Dats K H vs xs → Dats K H (v :: vs) (x :: xs)
end
theorem Same.seqT {K : PySem.W.Frag} {H H' : Hp} {a : Addr} {xs : List V} (e : Same H H') (h : SqT K H a xs) : SqT K H' a xs := by
  rcases h with (h | ⟨o, h⟩) | h
  · exact .inl (.inl (e _ _ h))
  · exact .inl (.inr ⟨o, e _ _ h⟩)
  · exact .inr h
mutual
theorem Dat.mono {K : PySem.W.Frag} {H H' : Hp} (e : Same H H') : ∀ {v : V} {x : PV}, Dat K H v x → Dat K H' v x
  | _, _, .n => .n
  | _, _, .b x => .b x
  | _, _, .i x => .i x
  | _, _, .s x => .s x
  | _, _, .t h hs => .t (e _ _ h) (Dats.mono e hs)
  | _, _, .l h hs => .l (e _ _ h) (Dats.mono e hs)
  | _, _, .z ns h => .z ns (e.seq h)
  | _, _, .q h hd hs => .q (e _ _ h) (hd.mono e) (Dats.mono e hs)
theorem Dats.mono {K : PySem.W.Frag} {H H' : Hp} (e : Same H H') : ∀ {vs : List V} {xs : List PV}, Dats K H vs xs → Dats K H' vs xs
  | _, _, .nil => .nil
  | _, _, .cons h hs => .cons (Dat.mono e h) (Dats.mono e hs)
end
theorem dp_ints {K : PySem.W.Frag} {H : Hp} : ∀ ns : List Int, DpAll K H (ns.map V.int) (ns.map PyData.int)
  | [] => .nil
  | n :: ns => .cons (.int n) (dp_ints ns)
mutual
theorem Dat.dp {K : PySem.W.Frag} {H : Hp} : ∀ {v : V} {x : PV}, Dat K H v x → dep x < 1000 → Dp K H v (toPy x)
  | _, _, .n, _ => by simp only [toPy]; exact .non
  | _, _, .b x, _ => by simp only [toPy]; exact .bl x
  | _, _, .i x, _ => by simp only [toPy]; exact .int x
  | _, _, .s x, _ => by simp only [toPy]; exact .str _
  | _, _, .t h hs, q => by
    simp only [dep] at q
    simp only [toPy]
    exact .tup (SqT.of h) (Dats.dp hs (by omega))
  | _, _, .l h hs, q => by
    simp only [dep] at q
    simp only [toPy]
    exact .lst (SqL.of h) (Dats.dp hs (by omega))
  | _, _, .z ns h, _ => by simp only [toPy]; exact .lst h (dp_ints ns)
  | _, _, .q _ _ _, q => by simp only [dep] at q; omega
theorem Dats.dp {K : PySem.W.Frag} {H : Hp} : ∀ {vs : List V} {xs : List PV}, Dats K H vs xs → deps xs < 1000 → DpAll K H vs (toPys xs)
  | _, _, .nil, _ => by simp only [toPys]; exact .nil
  | _, _, .cons h hs, q => by
    simp only [deps] at q
    simp only [toPys]
    exact .cons (Dat.dp h (by omega)) (Dats.dp hs (by omega))
end
section
variable {K : PySem.W.Frag} {H : Hp}
theorem Dats.length : ∀ {vs : List V} {xs : List PV}, Dats K H vs xs → vs.length = xs.length
  | _, _, .nil => rfl
  | _, _, .cons _ t => by simp [Dats.length t]
theorem Dats.get : ∀ {vs : List V} {xs : List PV} {i : Nat} {x : PV}, Dats K H vs xs → xs[i]? = some x → ∃ v, vs[i]? = some v ∧ Dat K H v x
  | _, _, _, _, .nil, e => by simp at e
  | _, _, 0, _, .cons r _, e => by simp at e; subst e; exact ⟨_, rfl, r⟩
  | _, _, i + 1, x, .cons _ t, e => by
    obtain ⟨u, h1, h2⟩ := Dats.get (i := i) (x := x) t (by simpa using e)
    exact ⟨u, by simpa using h1, h2⟩
theorem Dats.get' : ∀ {vs : List V} {xs : List PV} {i : Nat} {v : V}, Dats K H vs xs → vs[i]? = some v → ∃ x, xs[i]? = some x ∧ Dat K H v x
  | _, _, _, _, .nil, e => by simp at e
  | _, _, 0, _, .cons r _, e => by simp at e; subst e; exact ⟨_, rfl, r⟩
  | _, _, i + 1, v, .cons _ t, e => by
    obtain ⟨u, h1, h2⟩ := Dats.get' (i := i) (v := v) t (by simpa using e)
    exact ⟨u, by simpa using h1, h2⟩
theorem Dats.append : ∀ {vs ws : List V} {xs ys : List PV}, Dats K H vs xs → Dats K H ws ys → Dats K H (vs ++ ws) (xs ++ ys)
  | _, _, _, _, .nil, s => s
  | _, _, _, _, .cons r t, s => .cons r (Dats.append t s)
theorem Dats.snoc {vs : List V} {v : V} {xs : List PV} {x : PV} (h : Dats K H vs xs) (g : Dat K H v x) : Dats K H (vs ++ [v]) (xs ++ [x]) := h.append (.cons g .nil)
theorem Dats.take : ∀ {vs : List V} {xs : List PV} (k : Nat), Dats K H vs xs → Dats K H (vs.take k) (xs.take k)
  | _, _, 0, _ => .nil
  | _, _, _ + 1, .nil => .nil
  | _, _, k + 1, .cons r t => .cons r (Dats.take k t)
theorem Dats.drop : ∀ {vs : List V} {xs : List PV} (k : Nat), Dats K H vs xs → Dats K H (vs.drop k) (xs.drop k)
  | _, _, 0, r => r
  | _, _, _ + 1, .nil => .nil
  | _, _, k + 1, .cons _ t => Dats.drop k t
theorem Dats.set : ∀ {vs : List V} {xs : List PV} {v : V} {x : PV} (k : Nat), Dats K H vs xs → Dat K H v x → Dats K H (vs.set k v) (xs.set k x)
  | _, _, _, _, _, .nil, _ => .nil
  | _, _, _, _, 0, .cons _ t, g => .cons g t
  | _, _, _, _, k + 1, .cons r t, g => .cons r (Dats.set k t g)
theorem Dats.reverse : ∀ {vs : List V} {xs : List PV}, Dats K H vs xs → Dats K H vs.reverse xs.reverse
  | _, _, .nil => .nil
  | _, _, .cons r t => by
    rw [List.reverse_cons, List.reverse_cons]
    exact (Dats.reverse t).snoc r
theorem Dats.ints : ∀ {vs : List V} {ns : List Int}, Dats K H vs (ns.map PV.i) → vs = ns.map V.int
  | _, [], .nil => rfl
  | _, n :: ns, .cons r t => by
    cases r
    rw [Dats.ints t]
    rfl
theorem Dats.of_ints : ∀ ns : List Int, Dats K H (ns.map V.int) (ns.map PV.i)
  | [] => .nil
  | n :: ns => .cons (.i n) (Dats.of_ints ns)
theorem Dats.bls : ∀ {vs : List V} {ns : List Bool}, Dats K H vs (ns.map PV.b) → vs = ns.map V.bl
  | _, [], .nil => rfl
  | _, n :: ns, .cons r t => by
    cases r
    rw [Dats.bls t]
    rfl
theorem Dats.strs : ∀ {vs : List V} {ns : List (List Nat)}, Dats K H vs (ns.map PV.s) → vs = ns.map fun cs => V.str ⟨cs.toArray⟩
  | _, [], .nil => rfl
  | _, n :: ns, .cons r t => by
    cases r
    rw [Dats.strs t]
    rfl
end
end DD
/-! slots, states, what an expression gives -/
namespace DD
open PySem PySem.Spec L2

/-- an error that a def of the program may let out -/
abbrev Err := Nat
/-- the errors' classes; the error that is handled: where it stands, its class -/
structure EvC where
  ca : Err → Addr
  xa : Addr
  xc : Err → Prop
instance : CoeFun EvC fun _ => Err → Addr := ⟨EvC.ca⟩
/-- a slot: nothing known; data; a list that is written; a list of lists that are written; a dict that is written; a dict of lists that are written; an exception that is handled -/
inductive Sl1 where
  | u | d (x : PV) | m (xs : List PV) | g (xss : List (List PV)) | q (ks : List DK) (xs : List PV) | h (ks : List DK) (xss : List (List PV)) | x (c : Err)
abbrev Sl := List Sl1
/-- what an expression gives: data, a list that a slot holds, a new list; an error -/
inductive ER where
  | d (z : PV) | m (zs : List PV) | f (zs : List PV) | e (c : Err)
def ER.val : ER → Bool
  | .e _ => false
  | _ => true
def ER.pv : ER → PV
  | .d x => x
  | .m xs => .l xs
  | .f xs => .l xs
  | .e _ => .n

structure Gr (F H F' H' : Hp) : Prop where
  f : Same F F'
  h : Same H H'
  s : Same F' H'
  o : ∀ a o, F' a = some o → F a = some o ∨ H a = none
theorem Gr.refl {F H : Hp} (h : Same F H) : Gr F H F H := ⟨Same.refl F, Same.refl H, h, fun _ _ e => .inl e⟩
theorem Gr.trans {F H F1 H1 F2 H2 : Hp} (a : Gr F H F1 H1) (b : Gr F1 H1 F2 H2) : Gr F H F2 H2 :=
  ⟨a.f.trans b.f, a.h.trans b.h, b.s, fun c o e => by
    rcases b.o c o e with h | h
    · exact a.o c o h
    · exact .inr (a.h.free h)⟩
theorem same_new {H : Hp} {p : Addr} {o : HO} (h : H p = none) : Same H (upd H p o) := fun b x e => by
  rw [upd_ne (ne_of_none e h)]
  exact e
/-- a new object beside what stands -/
theorem Gr.new {F H : Hp} {p : Addr} {o : HO} (s : Same F H) (h : H p = none) : Gr F H F (upd H p o) :=
  ⟨Same.refl F, same_new h, s.trans (same_new h), fun _ _ e => .inl e⟩
/-- .. that is data from now on -/
theorem Gr.put {F H : Hp} {p : Addr} {o : HO} (s : Same F H) (h : H p = none) : Gr F H (upd F p o) (upd H p o) :=
  have hF : F p = none := s.free h
  ⟨same_new hF, same_new h, fun b x e => by
    by_cases hb : b = p
    · subst hb; rw [upd_same] at e; rw [upd_same]; exact e
    · rw [upd_ne hb] at e; rw [upd_ne hb]; exact s b x e, fun a o' e => by
    by_cases hb : a = p
    · subst hb; exact .inr h
    · rw [upd_ne hb] at e; exact .inl e⟩

/-- a value's standing: data, or a list that a slot holds -/
def Val (K : PySem.W.Frag) (F H : Hp) (v : V) (x : PV) : Prop :=
  Dat K F v x ∨ ∃ p vs xs, v = .ref p ∧ x = .l xs ∧ H p = some (.lst vs) ∧ Dats K F vs xs
theorem Val.dat {K : PySem.W.Frag} {F H : Hp} {v : V} {x : PV} (s : Same F H) (h : Val K F H v x) : Dat K H v x := by
  rcases h with h | ⟨p, vs, xs, rfl, rfl, h, hs⟩
  · exact h.mono s
  · exact .l h (hs.mono s)
theorem Val.up {K : PySem.W.Frag} {F H F' H' : Hp} {v : V} {x : PV} (g : Gr F H F' H') (h : Val K F H v x) : Val K F' H' v x := by
  rcases h with h | ⟨p, vs, xs, rfl, rfl, h, hs⟩
  · exact .inl (h.mono g.f)
  · exact .inr ⟨p, vs, xs, rfl, rfl, g.h _ _ h, hs.mono g.f⟩
/-- what an expression's value is: H the heap ahead of it -/
def VOk (K : PySem.W.Frag) (H F' H' : Hp) (v : V) : ER → Prop
  | .d x => Dat K F' v x
  | .m xs => ∃ p vs, v = .ref p ∧ H' p = some (.lst vs) ∧ Dats K F' vs xs
  | .f xs => ∃ p vs, v = .ref p ∧ H p = none ∧ F' p = none ∧ H' p = some (.lst vs) ∧ Dats K F' vs xs
  | .e _ => False
theorem VOk.va {K : PySem.W.Frag} {H F' H' : Hp} {v : V} {r : ER} (h : VOk K H F' H' v r) : Val K F' H' v r.pv := by
  cases r with
  | d x => exact .inl h
  | m xs => obtain ⟨p, vs, rfl, h1, h2⟩ := h; exact .inr ⟨p, vs, xs, rfl, rfl, h1, h2⟩
  | f xs => obtain ⟨p, vs, rfl, _, _, h1, h2⟩ := h; exact .inr ⟨p, vs, xs, rfl, rfl, h1, h2⟩
  | e c => exact h.elim
theorem VOk.up {K : PySem.W.Frag} {H F1 H1 F2 H2 : Hp} {v : V} {r : ER} (g : Gr F1 H1 F2 H2) (h : VOk K H F1 H1 v r) : VOk K H F2 H2 v r := by
  cases r with
  | d x => exact h.mono g.f
  | m xs => obtain ⟨p, vs, rfl, h1, h2⟩ := h; exact ⟨p, vs, rfl, g.h _ _ h1, h2.mono g.f⟩
  | f xs =>
    obtain ⟨p, vs, rfl, h0, hf, h1, h2⟩ := h
    refine ⟨p, vs, rfl, h0, ?_, g.h _ _ h1, h2.mono g.f⟩
    cases e : F2 p with
    | none => rfl
    | some o =>
      rcases g.o p o e with h | h
      · rw [hf] at h; cases h
      · rw [h1] at h; cases h
  | e c => exact h.elim
theorem VOk.back {K : PySem.W.Frag} {H0 H F' H' : Hp} {v : V} {r : ER} (e : Same H0 H) (h : VOk K H F' H' v r) : VOk K H0 F' H' v r := by
  cases r with
  | d x => exact h
  | m xs => exact h
  | f xs => obtain ⟨p, vs, rfl, h0, h1⟩ := h; exact ⟨p, vs, rfl, e.free h0, h1⟩
  | e c => exact h

/-- lists of data at ps -/
def Lists (K : PySem.W.Frag) (F H : Hp) : List Addr → List (List PV) → Prop
  | [], [] => True
  | p :: ps, xs :: xss => (∃ vs, H p = some (.lst vs) ∧ Dats K F vs xs) ∧ Lists K F H ps xss
  | _, _ => False
/-- what a written slot's value v stands for; B: the objects that it owns -/
def Own (K : PySem.W.Frag) (F H : Hp) (v : V) (B : List Addr) : Sl1 → Prop
  | .m xs => ∃ p vs, v = .ref p ∧ B = [p] ∧ H p = some (.lst vs) ∧ Dats K F vs xs
  | .g xss => ∃ p ps, v = .ref p ∧ B = p :: ps ∧ (p :: ps).Nodup ∧ H p = some (.lst (ps.map V.ref)) ∧ Lists K F H ps xss
  | .q ks xs => ∃ p o ws, v = .ref p ∧ B = [p] ∧ H p = some o ∧ DictH F p false o ks ws ∧ Dats K F ws xs
  | .h ks xss => ∃ p o ps, v = .ref p ∧ B = p :: ps ∧ (p :: ps).Nodup ∧ H p = some o ∧ DictH F p true o ks (ps.map V.ref) ∧ Lists K F H ps xss
  | _ => False
def Sl1.isW : Sl1 → Bool
  | .m _ => true
  | .g _ => true
  | .q _ _ => true
  | .h _ _ => true
  | _ => false
theorem Lists.up {K : PySem.W.Frag} {F H F' H' : Hp} (f : Same F F') (h : Same H H') : ∀ {ps : List Addr} {xss : List (List PV)}, Lists K F H ps xss → Lists K F' H' ps xss
  | [], [], _ => True.intro
  | _ :: _, _ :: _, ⟨⟨vs, h1, h2⟩, r⟩ => ⟨⟨vs, h _ _ h1, h2.mono f⟩, Lists.up f h r⟩
  | [], _ :: _, r => r.elim
  | _ :: _, [], r => r.elim
theorem Lists.length {K : PySem.W.Frag} {F H : Hp} : ∀ {ps : List Addr} {xss : List (List PV)}, Lists K F H ps xss → ps.length = xss.length
  | [], [], _ => rfl
  | _ :: _, _ :: _, ⟨_, r⟩ => by simp [Lists.length r]
  | [], _ :: _, r => r.elim
  | _ :: _, [], r => r.elim
theorem Lists.live {K : PySem.W.Frag} {F H : Hp} : ∀ {ps : List Addr} {xss : List (List PV)} {a : Addr}, Lists K F H ps xss → a ∈ ps → H a ≠ none
  | [], _, _, _, h => by cases h
  | p :: ps, xs :: xss, a, ⟨⟨vs, h1, _⟩, r⟩, h => by
    rcases List.mem_cons.mp h with rfl | h
    · rw [h1]; simp
    · exact Lists.live r h
  | _ :: _, [], _, r, _ => r.elim
theorem Own.up {K : PySem.W.Frag} {F H F' H' : Hp} {v : V} {B : List Addr} (f : Same F F') (h : Same H H') : ∀ {s : Sl1}, Own K F H v B s → Own K F' H' v B s
  | .m xs, ⟨p, vs, e1, e2, e3, e4⟩ => ⟨p, vs, e1, e2, h _ _ e3, e4.mono f⟩
  | .g xss, ⟨p, ps, e1, e2, e3, e4, e5⟩ => ⟨p, ps, e1, e2, e3, h _ _ e4, e5.up f h⟩
  | .q ks xs, ⟨p, o, ws, e1, e2, e3, e4, e5⟩ => ⟨p, o, ws, e1, e2, h _ _ e3, e4.mono f, e5.mono f⟩
  | .h ks xss, ⟨p, o, ps, e1, e2, e3, e4, e5, e6⟩ => ⟨p, o, ps, e1, e2, e3, h _ _ e4, e5.mono f, e6.up f h⟩
  | .u, z => z.elim
  | .d _, z => z.elim
  | .x _, z => z.elim
theorem Own.live {K : PySem.W.Frag} {F H : Hp} {v : V} {B : List Addr} {a : Addr} (ha : a ∈ B) : ∀ {s : Sl1}, Own K F H v B s → H a ≠ none
  | .m xs, ⟨p, vs, e1, e2, e3, e4⟩ => by
    subst e2
    rw [List.mem_singleton.mp ha, e3]; simp
  | .g xss, ⟨p, ps, e1, e2, e3, e4, e5⟩ => by
    subst e2
    rcases List.mem_cons.mp ha with rfl | h
    · rw [e4]; simp
    · exact e5.live h
  | .q ks xs, ⟨p, o, ws, e1, e2, e3, e4, e5⟩ => by
    subst e2
    rw [List.mem_singleton.mp ha, e3]; simp
  | .h ks xss, ⟨p, o, ps, e1, e2, e3, e4, e5, e6⟩ => by
    subst e2
    rcases List.mem_cons.mp ha with rfl | h
    · rw [e4]; simp
    · exact e6.live h
  | .u, z => z.elim
  | .d _, z => z.elim
  | .x _, z => z.elim
theorem Lists.off {K : PySem.W.Frag} {F H F' H' : Hp} (f : Same F F') : ∀ {ps : List Addr} {xss : List (List PV)}, (∀ a ∈ ps, H' a = H a) → Lists K F H ps xss → Lists K F' H' ps xss
  | [], [], _, _ => True.intro
  | p :: _, _ :: _, h, ⟨⟨vs, h1, h2⟩, r⟩ => ⟨⟨vs, by rw [h p (by simp)]; exact h1, h2.mono f⟩, Lists.off f (fun a ha => h a (List.mem_cons_of_mem _ ha)) r⟩
  | [], _ :: _, _, r => r.elim
  | _ :: _, [], _, r => r.elim
theorem Own.off {K : PySem.W.Frag} {F H F' H' : Hp} {v : V} {B : List Addr} (f : Same F F') (h : ∀ a ∈ B, H' a = H a) : ∀ {s : Sl1}, Own K F H v B s → Own K F' H' v B s
  | .m xs, ⟨p, vs, e1, e2, e3, e4⟩ => by subst e2; exact ⟨p, vs, e1, rfl, by rw [h p (by simp)]; exact e3, e4.mono f⟩
  | .g xss, ⟨p, ps, e1, e2, e3, e4, e5⟩ => by subst e2; exact ⟨p, ps, e1, rfl, e3, by rw [h p (by simp)]; exact e4, e5.off f fun a ha => h a (List.mem_cons_of_mem _ ha)⟩
  | .q ks xs, ⟨p, o, ws, e1, e2, e3, e4, e5⟩ => by subst e2; exact ⟨p, o, ws, e1, rfl, by rw [h p (by simp)]; exact e3, e4.mono f, e5.mono f⟩
  | .h ks xss, ⟨p, o, ps, e1, e2, e3, e4, e5, e6⟩ => by subst e2; exact ⟨p, o, ps, e1, rfl, e3, by rw [h p (by simp)]; exact e4, e5.mono f, e6.off f fun a ha => h a (List.mem_cons_of_mem _ ha)⟩
  | .u, z => z.elim
  | .d _, z => z.elim
  | .x _, z => z.elim

/-- the slots stand for ρ: H0 the heap at the def's entry -/
structure Rep (K : PySem.W.Frag) (CA : EvC) (H0 F H : Hp) (σ : St) (ρ : Sl) : Prop where
  len : σ.length = ρ.length
  sub : Same F H
  dat : ∀ (i : Nat) x, ρ[i]? = some (.d x) → ∃ v, σ[i]? = some (some v) ∧ Dat K F v x
  exn : ∀ (i : Nat) c, ρ[i]? = some (.x c) → σ[i]? = some (some (.ref CA.xa)) ∧ CA.xc c
  ow : ∃ A : Nat → List Addr, (∀ i a, a ∈ A i → H a ≠ none ∧ F a = none ∧ H0 a = none) ∧ (∀ i j a, a ∈ A i → a ∈ A j → i = j) ∧
    ∀ (i : Nat) s, ρ[i]? = some s → s.isW = true → ∃ v, σ[i]? = some (some v) ∧ Own K F H v (A i) s
theorem set_get {α : Type} {l : List α} {i j : Nat} {a b : α} (h : (l.set i a)[j]? = some b) : (i = j ∧ b = a ∧ i < l.length) ∨ (i ≠ j ∧ l[j]? = some b) := by
  rw [List.getElem?_set] at h
  by_cases e : i = j
  · subst e
    rw [if_pos rfl] at h
    by_cases hl : i < l.length
    · rw [if_pos hl] at h
      exact .inl ⟨rfl, (Option.some.inj h).symm, hl⟩
    · rw [if_neg hl] at h; cases h
  · rw [if_neg e] at h
    exact .inr ⟨e, h⟩
theorem set_at {α : Type} {l : List α} {i : Nat} {a : α} (h : i < l.length) : (l.set i a)[i]? = some a := by simp [h]
theorem set_off {α : Type} {l : List α} {i j : Nat} {a : α} (h : i ≠ j) : (l.set i a)[j]? = l[j]? := by simp [List.getElem?_set, h]
theorem refs_inj : ∀ {ps qs : List Addr}, ps.map V.ref = qs.map V.ref → ps = qs
  | [], [], _ => rfl
  | p :: ps, q :: qs, h => by
    simp at h
    rw [h.1, refs_inj h.2]
  | [], _ :: _, h => by simp at h
  | _ :: _, [], h => by simp at h
theorem zip_snd {α β : Type} : ∀ {l : List α} {m m' : List β}, l.length = m.length → l.length = m'.length → l.zip m = l.zip m' → m = m'
  | [], [], [], _, _, _ => rfl
  | a :: l, b :: m, c :: m', h1, h2, h => by
    simp at h
    rw [h.1, zip_snd (by simpa using h1) (by simpa using h2) h.2]
  | [], _ :: _, _, h, _, _ => by simp at h
  | [], [], _ :: _, _, h, _ => by simp at h
  | _ :: _, [], _, h, _, _ => by simp at h
  | _ :: _, _ :: _, [], _, h, _ => by simp at h
theorem map_inj_s : ∀ {a b : List (List Nat)}, a.map DK.s = b.map DK.s → a = b
  | [], [], _ => rfl
  | x :: a, y :: b, h => by
    simp at h
    rw [h.1, map_inj_s h.2]
  | [], _ :: _, h => by simp at h
  | _ :: _, [], h => by simp at h
theorem map_inj_t : ∀ {a b : List (List Int)}, a.map DK.t = b.map DK.t → a = b
  | [], [], _ => rfl
  | x :: a, y :: b, h => by
    simp at h
    rw [h.1, map_inj_t h.2]
  | [], _ :: _, h => by simp at h
  | _ :: _, [], h => by simp at h
theorem entN_vals : ∀ {ks : List DK} {as as' : List Addr} {us us' : List Value}, ks.length = as.length → ks.length = as'.length → ks.length = us.length → ks.length = us'.length → entN ks as us = entN ks as' us' → us = us'
  | [], [], [], [], [], _, _, _, _, _ => rfl
  | k :: ks, a :: as, a' :: as', u :: us, u' :: us', h1, h2, h3, h4, e => by
    simp only [entN, List.cons.injEq, DictEntry.mk.injEq] at e
    rw [e.1.2.2, entN_vals (by simpa using h1) (by simpa using h2) (by simpa using h3) (by simpa using h4) e.2]
  | [], _ :: _, _, _, _, h, _, _, _, _ => by simp at h
  | [], [], _ :: _, _, _, _, h, _, _, _ => by simp at h
  | [], [], [], _ :: _, _, _, _, h, _, _ => by simp at h
  | [], [], [], [], _ :: _, _, _, _, h, _ => by simp at h
  | _ :: _, [], _, _, _, h, _, _, _, _ => by simp at h
  | _ :: _, _ :: _, [], _, _, _, h, _, _, _ => by simp at h
  | _ :: _, _ :: _, _ :: _, [], _, _, _, h, _, _ => by simp at h
  | _ :: _, _ :: _, _ :: _, _ :: _, [], _, _, _, h, _ => by simp at h
theorem vals_refs : ∀ {ps : List Addr} {us : List Value}, Vals (ps.map V.ref) us → us = ps.map Value.ref
  | [], _, .nil => rfl
  | p :: ps, _, .cons r t => by
    rw [vals_refs t, show _ = Value.ref p from r]
    rfl
theorem vals_of_refs : ∀ ps : List Addr, Vals (ps.map V.ref) (ps.map Value.ref)
  | [] => .nil
  | p :: ps => .cons rfl (vals_of_refs ps)
theorem vrefs_inj : ∀ {ps qs : List Addr}, ps.map Value.ref = qs.map Value.ref → ps = qs
  | [], [], _ => rfl
  | p :: ps, q :: qs, h => by
    simp at h
    rw [h.1, vrefs_inj h.2]
  | [], _ :: _, h => by simp at h
  | _ :: _, [], h => by simp at h
theorem DictH.det {F F' : Hp} {a : Addr} {o : HO} {ks : List DK} {ps ps' : List Addr} (h : DictH F a true o ks (ps.map V.ref)) (h' : DictH F' a true o ks (ps'.map V.ref)) : ps = ps' := by
  obtain ⟨l, _, _, as, ka, e⟩ := h
  obtain ⟨l', _, _, as', ka', e'⟩ := h'
  have e2 := e.symm.trans e'
  unfold dN at e2
  injection e2 with e2
  let ob : Obj := { cls := .type "dict", data := .dict (entN ks as (ps.map Value.ref)).toArray 0 }
  let hp : Heap := { objs := Array.replicate (a + 1) ob }
  have hg : hp.get? a = some ob := by
    unfold Heap.get?
    rw [show hp.objs[a]? = some ob from by simp [hp]]
  have e3 := congrFun e2 hp
  have h1 := e3.mp ⟨_, ob, _, _, vals_of_refs ps, hg, ⟨rfl, rfl, rfl⟩, rfl, by simp⟩
  obtain ⟨us, o2, es, ep, hv, hg2, _, hd, hs⟩ := h1
  rw [hg] at hg2
  cases hg2
  injection hd with hd1 hd2
  rw [← hd1] at hs
  have hv2 := vals_refs hv
  subst hv2
  refine vrefs_inj (entN_vals ka.length ka'.length ?_ ?_ (by simpa using hs))
  · simpa using l
  · simpa using l'
/-- what is owned is told by the value -/
theorem Own.det {K : PySem.W.Frag} {F H F' H' : Hp} {v : V} {B B' : List Addr} (hs : Same H H') : ∀ {s : Sl1}, Own K F H v B s → Own K F' H' v B' s → B' = B
  | .m xs, ⟨p, vs, e1, e2, e3, e4⟩, ⟨p', vs', f1, f2, f3, f4⟩ => by
    subst e1; cases f1; rw [e2, f2]
  | .g xss, ⟨p, ps, e1, e2, e3, e4, e5⟩, ⟨p', ps', f1, f2, f3, f4, f5⟩ => by
    subst e1; cases f1
    have := hs _ _ e4
    rw [f4] at this
    injection this with this
    injection this with this
    rw [e2, f2, refs_inj this]
  | .q ks xs, ⟨p, o, ws, e1, e2, e3, e4, e5⟩, ⟨p', o', ws', f1, f2, f3, f4, f5⟩ => by
    subst e1; cases f1; rw [e2, f2]
  | .h ks xss, ⟨p, o, ps, e1, e2, e3, e4, e5, e6⟩, ⟨p', o', ps', f1, f2, f3, f4, f5, f6⟩ => by
    subst e1; cases f1
    have := hs _ _ e4
    rw [f4] at this
    injection this with this
    subst this
    rw [e2, f2, DictH.det f5 e5]
  | .u, z, _ => z.elim
  | .d _, z, _ => z.elim
  | .x _, z, _ => z.elim
variable {K : PySem.W.Frag} {CA : EvC} {H0 F H F' H' : Hp} {σ σ' : St} {ρ ρ' : Sl} {i : Nat} {v : V} {x : PV} {xs : List PV}
theorem Rep.up (R : Rep K CA H0 F H σ ρ) (g : Gr F H F' H') : Rep K CA H0 F' H' σ ρ where
  len := R.len
  sub := g.s
  dat := fun i x e => by
    obtain ⟨v, h1, h2⟩ := R.dat i x e
    exact ⟨v, h1, h2.mono g.f⟩
  exn := R.exn
  ow := by
    obtain ⟨A, h1, h2, h3⟩ := R.ow
    refine ⟨A, fun i a ha => ?_, h2, fun i s e w => ?_⟩
    · obtain ⟨n1, n2, n3⟩ := h1 i a ha
      refine ⟨fun z => n1 (g.h.free z), ?_, n3⟩
      cases e : F' a with
      | none => rfl
      | some o =>
        rcases g.o a o e with h | h
        · rw [n2] at h; cases h
        · exact absurd h n1
    · obtain ⟨v, e1, e2⟩ := h3 i s e w
      exact ⟨v, e1, e2.up g.f g.h⟩
/-- slot i's owner changes: its old objects are let go -/
def upA (A : Nat → List Addr) (i : Nat) (B : List Addr) : Nat → List Addr := fun j => if j = i then B else A j
theorem upA_same {A : Nat → List Addr} {B : List Addr} : upA A i B i = B := by simp [upA]
theorem upA_ne {A : Nat → List Addr} {B : List Addr} {j : Nat} (h : j ≠ i) : upA A i B j = A j := by simp [upA, h]
theorem Rep.setd (R : Rep K CA H0 F H σ ρ) (h : Dat K F v x) : Rep K CA H0 F H (σ.set i (some v)) (ρ.set i (.d x)) where
  len := by simp [R.len]
  sub := R.sub
  dat := fun j y e => by
    rcases set_get e with ⟨rfl, e2, hl⟩ | ⟨hn, e2⟩
    · cases e2
      exact ⟨v, set_at (by rw [R.len]; exact hl), h⟩
    · obtain ⟨w, h1, h2⟩ := R.dat j y e2
      exact ⟨w, by rw [set_off hn]; exact h1, h2⟩
  exn := fun j c e => by
    rcases set_get e with ⟨rfl, e2, hl⟩ | ⟨hn, e2⟩
    · cases e2
    · rw [set_off hn]; exact R.exn j c e2
  ow := by
    obtain ⟨A, h1, h2, h3⟩ := R.ow
    refine ⟨A, h1, h2, fun j s e w => ?_⟩
    rcases set_get e with ⟨rfl, e2, hl⟩ | ⟨hn, e2⟩
    · subst e2; cases w
    · obtain ⟨w, e1, e2⟩ := h3 j s e2 w
      exact ⟨w, by rw [set_off hn]; exact e1, e2⟩
/-- a new owned thing into slot i -/
theorem Rep.setw {s : Sl1} {B : List Addr} (R : Rep K CA H0 F H σ ρ) (hw : s.isW = true) (h : Own K F H v B s) (hB : ∀ a ∈ B, F a = none ∧ H0 a = none) (hn : ∀ A : Nat → List Addr, (∀ i s, ρ[i]? = some s → s.isW = true → ∃ v, σ[i]? = some (some v) ∧ Own K F H v (A i) s) → (∀ i a, a ∈ A i → H a ≠ none ∧ F a = none ∧ H0 a = none) → ∃ A' : Nat → List Addr, (∀ i a, a ∈ A' i → a ∈ A i) ∧ (∀ i s, ρ[i]? = some s → s.isW = true → A' i = A i) ∧ ∀ j a, a ∈ B → a ∉ A' j) :
    Rep K CA H0 F H (σ.set i (some v)) (ρ.set i s) where
  len := by simp [R.len]
  sub := R.sub
  dat := fun j y e => by
    rcases set_get e with ⟨rfl, e2, hl⟩ | ⟨hn, e2⟩
    · subst e2; cases hw
    · obtain ⟨w, h1, h2⟩ := R.dat j y e2
      exact ⟨w, by rw [set_off hn]; exact h1, h2⟩
  exn := fun j c e => by
    rcases set_get e with ⟨rfl, e2, hl⟩ | ⟨hn, e2⟩
    · subst e2; cases hw
    · rw [set_off hn]; exact R.exn j c e2
  ow := by
    obtain ⟨A, h1, h2, h3⟩ := R.ow
    obtain ⟨A', g1, g2, g3⟩ := hn A h3 h1
    refine ⟨upA A' i B, fun j a ha => ?_, fun j k a ha hb => ?_, fun j t e w => ?_⟩
    · by_cases hj : j = i
      · subst hj
        rw [upA_same] at ha
        exact ⟨h.live ha, hB a ha⟩
      · rw [upA_ne hj] at ha
        exact h1 j a (g1 j a ha)
    · by_cases hj : j = i
      · by_cases hk : k = i
        · rw [hj, hk]
        · subst hj
          rw [upA_same] at ha
          rw [upA_ne hk] at hb
          exact absurd hb (g3 k a ha)
      · by_cases hk : k = i
        · subst hk
          rw [upA_same] at hb
          rw [upA_ne hj] at ha
          exact absurd ha (g3 j a hb)
        · rw [upA_ne hj] at ha
          rw [upA_ne hk] at hb
          exact h2 j k a (g1 j a ha) (g1 k a hb)
    · rcases set_get e with ⟨rfl, e2, hl⟩ | ⟨hn, e2⟩
      · subst e2
        rw [upA_same]
        exact ⟨v, set_at (by rw [R.len]; exact hl), h⟩
      · rw [upA_ne (fun z => hn z.symm), g2 j t e2 w, set_off hn]
        exact h3 j t e2 w
/-- .. whose objects are new, or were nobody's -/
theorem Rep.setw' {s : Sl1} {B : List Addr} (R : Rep K CA H0 F H σ ρ) (hw : s.isW = true) (h : Own K F H v B s) (hB : ∀ a ∈ B, F a = none ∧ H0 a = none)
    (hn : ∀ (j : Nat) t A w, ρ[j]? = some t → t.isW = true → σ[j]? = some (some w) → Own K F H w A t → ∀ a ∈ B, a ∉ A) : Rep K CA H0 F H (σ.set i (some v)) (ρ.set i s) := by
  refine R.setw hw h hB fun A h3 h1 => ?_
  refine ⟨fun j => if (ρ[j]?.elim false Sl1.isW) = true then A j else [], fun j a ha => ?_, fun j t e w => ?_, fun j a ha hb => ?_⟩
  · dsimp only at ha
    split at ha
    · exact ha
    · cases ha
  · dsimp only
    rw [if_pos (by rw [e]; exact w)]
  · dsimp only at hb
    split at hb
    · rename_i hw2
      cases e : ρ[j]? with
      | none => rw [e] at hw2; cases hw2
      | some t =>
        rw [e] at hw2
        obtain ⟨w, e1, e2⟩ := h3 j t e hw2
        exact hn j t _ w e hw2 e1 e2 a ha hb
    · cases hb
/-- new addresses are no slot's -/
theorem Rep.setn {s : Sl1} {B : List Addr} {Hb : Hp} (R : Rep K CA H0 F H σ ρ) (hw : s.isW = true) (h : Own K F H v B s) (hB : ∀ a ∈ B, F a = none ∧ H0 a = none) (Rb : ∃ Fb, Rep K CA H0 Fb Hb σ ρ) (hn : ∀ a ∈ B, Hb a = none) (hs : Same Hb H) : Rep K CA H0 F H (σ.set i (some v)) (ρ.set i s) := by
  obtain ⟨Fb, Rb⟩ := Rb
  refine R.setw' hw h hB fun j t A w e ht e1 e2 a ha hA => ?_
  obtain ⟨A0, h1, _, h3⟩ := Rb.ow
  obtain ⟨w0, f1, f2⟩ := h3 j t e ht
  rw [f1] at e1
  cases e1
  have e : A = A0 j := Own.det hs f2 e2
  rw [e] at hA
  exact (h1 j a hA).1 (hn a ha)
/-- the owners, none but of slots that own -/
theorem Rep.owc (R : Rep K CA H0 F H σ ρ) : ∃ A : Nat → List Addr, (∀ i a, a ∈ A i → H a ≠ none ∧ F a = none ∧ H0 a = none) ∧ (∀ i j a, a ∈ A i → a ∈ A j → i = j) ∧
    (∀ (i : Nat) s, ρ[i]? = some s → s.isW = true → ∃ v, σ[i]? = some (some v) ∧ Own K F H v (A i) s) ∧ ∀ (i : Nat) a, a ∈ A i → ∃ s, ρ[i]? = some s ∧ s.isW = true := by
  obtain ⟨A, h1, h2, h3⟩ := R.ow
  have hs : ∀ (i : Nat) a, a ∈ (if (ρ[i]?.elim false Sl1.isW) = true then A i else []) → a ∈ A i ∧ ∃ s, ρ[i]? = some s ∧ s.isW = true := fun i a h => by
    split at h
    · rename_i hw
      refine ⟨h, ?_⟩
      cases e : ρ[i]? with
      | none => rw [e] at hw; cases hw
      | some s => rw [e] at hw; exact ⟨s, rfl, hw⟩
    · cases h
  refine ⟨fun i => if (ρ[i]?.elim false Sl1.isW) = true then A i else [], fun i a ha => h1 i a (hs i a ha).1, fun i j a ha hb => h2 i j a (hs i a ha).1 (hs j a hb).1, fun i s e w => ?_, fun i a ha => (hs i a ha).2⟩
  dsimp only
  rw [if_pos (by rw [e]; exact w)]
  exact h3 i s e w
/-- the owned thing of a slot is written; Hb: an earlier heap -/
theorem Rep.writeB (R : Rep K CA H0 F H σ ρ) {Fb Hb : Hp} (Rb : Rep K CA H0 Fb Hb σ ρ) (hbs : Same Hb H) {s : Sl1} (hi : ρ[i]? = some s) (hs : s.isW = true) : ∃ v B, σ[i]? = some (some v) ∧ Own K F H v B s ∧ (∀ a ∈ B, H a ≠ none ∧ F a = none ∧ H0 a = none) ∧
    ∀ F' H' t B', t.isW = true → Same F F' → (∀ a o, H a = some o → a ∉ B → H' a = some o) → Same F' H' → (∀ a o, F' a = some o → F a = some o ∨ H a = none) → Own K F' H' v B' t →
      (∀ a ∈ B', F' a = none ∧ H0 a = none ∧ (a ∈ B ∨ Hb a = none)) → Rep K CA H0 F' H' σ (ρ.set i t) := by
  obtain ⟨A, h1, h2, h3, h4⟩ := R.owc
  obtain ⟨Ab, b1, b2, b3⟩ := Rb.ow
  have hl : ∀ j a, a ∈ A j → Hb a ≠ none := fun j a ha => by
    obtain ⟨t, e, w⟩ := h4 j a ha
    obtain ⟨v1, e1, e2⟩ := h3 j t e w
    obtain ⟨v2, f1, f2⟩ := b3 j t e w
    rw [f1] at e1
    cases e1
    have := Own.det hbs f2 e2
    rw [this] at ha
    exact (b1 j a ha).1
  obtain ⟨v, e1, e2⟩ := h3 i s hi hs
  refine ⟨v, A i, e1, e2, fun a ha => h1 i a ha, fun F' H' t B' ht fF hH fH hFo ho hB => ?_⟩
  refine ⟨by simp [R.len], fH, fun j y e => ?_, fun j c e => ?_, upA A i B', fun j a ha => ?_, fun j k a ha hb => ?_, fun j r e w => ?_⟩
  · rcases set_get e with ⟨rfl, e2, hl⟩ | ⟨hn, e2⟩
    · subst e2; cases ht
    · obtain ⟨w, g1, g2⟩ := R.dat j y e2
      exact ⟨w, g1, g2.mono fF⟩
  · rcases set_get e with ⟨rfl, e2, hl⟩ | ⟨hn, e2⟩
    · subst e2; cases ht
    · exact R.exn j c e2
  · by_cases hj : j = i
    · subst hj
      rw [upA_same] at ha
      exact ⟨ho.live ha, (hB a ha).1, (hB a ha).2.1⟩
    · rw [upA_ne hj] at ha
      obtain ⟨n1, n2, n3⟩ := h1 j a ha
      cases e : H a with
      | none => exact absurd e n1
      | some o =>
        have := hH a o e fun q => hj (h2 j i a ha q)
        refine ⟨by rw [this]; simp, ?_, n3⟩
        cases e' : F' a with
        | none => rfl
        | some o' =>
          rcases hFo a o' e' with q | q
          · rw [n2] at q; cases q
          · exact absurd q n1
  · by_cases hj : j = i
    · by_cases hk : k = i
      · rw [hj, hk]
      · subst hj
        rw [upA_same] at ha
        rw [upA_ne hk] at hb
        rcases (hB a ha).2.2 with q | q
        · exact h2 j k a q hb
        · exact absurd q (hl k a hb)
    · by_cases hk : k = i
      · subst hk
        rw [upA_same] at hb
        rw [upA_ne hj] at ha
        rcases (hB a hb).2.2 with q | q
        · exact h2 j k a ha q
        · exact absurd q (hl j a ha)
      · rw [upA_ne hj] at ha
        rw [upA_ne hk] at hb
        exact h2 j k a ha hb
  · rcases set_get e with ⟨rfl, e3, hl⟩ | ⟨hn, e3⟩
    · subst e3
      rw [upA_same]
      exact ⟨v, e1, ho⟩
    · have hne : j ≠ i := fun z => hn z.symm
      rw [upA_ne hne]
      obtain ⟨w2, g1, g2⟩ := h3 j r e3 w
      refine ⟨w2, g1, g2.off fF fun a ha => ?_⟩
      obtain ⟨n1, _, _⟩ := h1 j a ha
      cases e : H a with
      | none => exact absurd e n1
      | some o => exact hH a o e fun q => hne (h2 j i a ha q)
theorem Rep.write (R : Rep K CA H0 F H σ ρ) {s : Sl1} (hi : ρ[i]? = some s) (hs : s.isW = true) : ∃ v B, σ[i]? = some (some v) ∧ Own K F H v B s ∧ (∀ a ∈ B, H a ≠ none ∧ F a = none ∧ H0 a = none) ∧
    ∀ F' H' t B', t.isW = true → Same F F' → (∀ a o, H a = some o → a ∉ B → H' a = some o) → Same F' H' → (∀ a o, F' a = some o → F a = some o ∨ H a = none) → Own K F' H' v B' t →
      (∀ a ∈ B', F' a = none ∧ H0 a = none ∧ (a ∈ B ∨ H a = none)) → Rep K CA H0 F' H' σ (ρ.set i t) := R.writeB R (Same.refl _) hi hs
/-- .. is data from now on -/
theorem Rep.thaw (R : Rep K CA H0 F H σ ρ) {s : Sl1} (hi : ρ[i]? = some s) (hs : s.isW = true) : ∃ v B, σ[i]? = some (some v) ∧ Own K F H v B s ∧ (∀ a ∈ B, H a ≠ none ∧ F a = none ∧ H0 a = none) ∧
    ∀ x, Dat K (fun a => if a ∈ B then H a else F a) v x → Rep K CA H0 (fun a => if a ∈ B then H a else F a) H σ (ρ.set i (.d x)) := by
  obtain ⟨A, h1, h2, h3⟩ := R.ow
  obtain ⟨v, e1, e2⟩ := h3 i s hi hs
  refine ⟨v, A i, e1, e2, fun a ha => h1 i a ha, fun x hx => ?_⟩
  have fF : Same F (fun a => if a ∈ A i then H a else F a) := fun a o e => by
    dsimp only
    split
    · rename_i ha
      rw [(h1 i a ha).2.1] at e; cases e
    · exact e
  refine ⟨by simp [R.len], fun a o e => ?_, fun j y e => ?_, fun j c e => ?_, upA A i [], fun j a ha => ?_, fun j k a ha hb => ?_, fun j r e w => ?_⟩
  · try dsimp only at e
    split at e
    · exact e
    · exact R.sub a o e
  · rcases set_get e with ⟨rfl, e2, hl⟩ | ⟨hn, e2⟩
    · cases e2
      exact ⟨v, e1, hx⟩
    · obtain ⟨w, g1, g2⟩ := R.dat j y e2
      exact ⟨w, g1, g2.mono fF⟩
  · rcases set_get e with ⟨rfl, e2, hl⟩ | ⟨hn, e2⟩
    · cases e2
    · exact R.exn j c e2
  · by_cases hj : j = i
    · subst hj
      rw [upA_same] at ha
      cases ha
    · rw [upA_ne hj] at ha
      refine ⟨(h1 j a ha).1, ?_, (h1 j a ha).2.2⟩
      try dsimp only
      rw [if_neg fun q => hj (h2 j i a ha q)]
      exact (h1 j a ha).2.1
  · have f : ∀ {l : Nat}, a ∈ upA A i [] l → a ∈ A l := fun {l} h => by
      by_cases hl : l = i
      · subst hl; rw [upA_same] at h; cases h
      · rw [upA_ne hl] at h; exact h
    exact h2 j k a (f ha) (f hb)
  · rcases set_get e with ⟨rfl, e3, hl⟩ | ⟨hn, e3⟩
    · subst e3
      cases w
    · have hne : j ≠ i := fun z => hn z.symm
      rw [upA_ne hne]
      obtain ⟨w2, g1, g2⟩ := h3 j r e3 w
      exact ⟨w2, g1, g2.off fF fun a ha => rfl⟩
/-- forgetting slots -/
theorem Rep.weak (R : Rep K CA H0 F H σ ρ) (hl : σ'.length = ρ'.length) (h : ∀ (i : Nat) s, ρ'[i]? = some s → s = .u ∨ (ρ[i]? = some s ∧ σ'[i]? = σ[i]?)) : Rep K CA H0 F H σ' ρ' where
  len := hl
  sub := R.sub
  dat := fun i x e => by
    rcases h i _ e with h | ⟨h1, h2⟩
    · cases h
    · rw [h2]; exact R.dat i x h1
  exn := fun i x e => by
    rcases h i _ e with h | ⟨h1, h2⟩
    · cases h
    · rw [h2]; exact R.exn i x h1
  ow := by
    obtain ⟨A, g1, g2, g3⟩ := R.ow
    refine ⟨A, g1, g2, fun i s e w => ?_⟩
    rcases h i _ e with h | ⟨h1, h2⟩
    · subst h; cases w
    · rw [h2]; exact g3 i s h1 w
/-! lists -/
theorem Rep.mt {i : Nat} {xs : List PV} (R : Rep K CA H0 F H σ ρ) (hi : ρ[i]? = some (.m xs)) : ∃ p vs, σ[i]? = some (some (.ref p)) ∧ F p = none ∧ H0 p = none ∧ H p = some (.lst vs) ∧ Dats K F vs xs := by
  obtain ⟨v, B, e1, ⟨p, vs, rfl, rfl, h1, h2⟩, hB, _⟩ := R.write hi rfl
  have := hB p (by simp)
  exact ⟨p, vs, e1, this.2.1, this.2.2, h1, h2⟩
/-- the list of a slot is written -/
theorem Rep.wr {p : Addr} {vs : List V} {xs ys : List PV} (R : Rep K CA H0 F H σ ρ) (hi : ρ[i]? = some (.m xs)) (hp : σ[i]? = some (some (.ref p))) (h : Dats K F vs ys) :
    Rep K CA H0 F (upd H p (.lst vs)) σ (ρ.set i (.m ys)) := by
  obtain ⟨v, B, e1, ⟨q, ws, rfl, rfl, h1, h2⟩, hB, k⟩ := R.write hi rfl
  rw [hp] at e1
  cases e1
  have hb := hB p (by simp)
  refine k F (upd H p (.lst vs)) (.m ys) [p] rfl (Same.refl _) (fun a o e n => ?_) (fun a o e => ?_) (fun a o e => .inl e) ⟨p, vs, rfl, rfl, upd_same, h⟩ fun a ha => ?_
  · rw [upd_ne (by simpa using n)]; exact e
  · rw [upd_ne (ne_of_none e hb.2.1)]; exact R.sub a o e
  · rw [List.mem_singleton.mp ha]
    exact ⟨hb.2.1, hb.2.2, .inl (by simp)⟩
/-- a new list -/
theorem Rep.setm {p : Addr} {vs : List V} {xs : List PV} (R : Rep K CA H0 F H σ ρ) (hF : F p = none) (h0 : H0 p = none) (hH : H p = some (.lst vs)) (h : Dats K F vs xs)
    {Hb : Hp} (Rb : ∃ Fb, Rep K CA H0 Fb Hb σ ρ) (hn : Hb p = none) (hs : Same Hb H) : Rep K CA H0 F H (σ.set i (some (.ref p))) (ρ.set i (.m xs)) :=
  R.setn (B := [p]) rfl ⟨p, vs, rfl, rfl, hH, h⟩ (fun a ha => by rw [List.mem_singleton.mp ha]; exact ⟨hF, h0⟩) Rb (fun a ha => by rw [List.mem_singleton.mp ha]; exact hn) hs
/-- a slot's list is data from now on -/
theorem Rep.frz {i : Nat} {xs : List PV} (R : Rep K CA H0 F H σ ρ) (hi : ρ[i]? = some (.m xs)) : ∃ F', Same F F' ∧ (∀ a o, F' a = some o → F a = some o ∨ H0 a = none) ∧ Rep K CA H0 F' H σ (ρ.set i (.d (.l xs))) := by
  obtain ⟨v, B, e1, ⟨p, vs, rfl, rfl, h1, h2⟩, hB, k⟩ := R.thaw hi rfl
  have hb := hB p (by simp)
  have fF : Same F (fun a => if a ∈ [p] then H a else F a) := fun a o e => by
    dsimp only
    rw [if_neg (by simpa using ne_of_none e hb.2.1)]
    exact e
  refine ⟨_, fF, fun a o e => ?_, k (.l xs) (.l (vs := vs) ?_ (h2.mono fF))⟩
  · try dsimp only at e
    split at e
    · rename_i ha
      rw [List.mem_singleton.mp ha]; exact .inr hb.2.2
    · exact .inl e
  · try dsimp only
    rw [if_pos (by simp)]
    exact h1
end DD
/-! expressions -/
namespace DD
open PySem PySem.Spec L2

abbrev CF := Sl → Option ER
def e1 (g : PV → Option ER) : Option ER → Option ER
  | some (.d x) => g x
  | some (.m xs) => g (.l xs)
  | some (.f xs) => g (.l xs)
  | some (.e c) => some (.e c)
  | none => none
/-- the same, for what is kept: no list that a slot still holds -/
def eS (g : PV → Option ER) : Option ER → Option ER
  | some (.d x) => g x
  | some (.f xs) => g (.l xs)
  | some (.e c) => some (.e c)
  | _ => none
section
variable {g : PV → Option ER} {x : PV} {xs : List PV} {c : Err}
@[simp] theorem e1_d : e1 g (some (.d x)) = g x := rfl
@[simp] theorem e1_m : e1 g (some (.m xs)) = g (.l xs) := rfl
@[simp] theorem e1_f : e1 g (some (.f xs)) = g (.l xs) := rfl
@[simp] theorem e1_e : e1 g (some (.e c)) = some (.e c) := rfl
@[simp] theorem e1_n : e1 g none = none := rfl
@[simp] theorem eS_d : eS g (some (.d x)) = g x := rfl
@[simp] theorem eS_m : eS g (some (.m xs)) = none := rfl
@[simp] theorem eS_f : eS g (some (.f xs)) = g (.l xs) := rfl
@[simp] theorem eS_e : eS g (some (.e c)) = some (.e c) := rfl
@[simp] theorem eS_n : eS g none = none := rfl
end

section
variable (K : PySem.W.Frag) (CA : EvC) (W : WX)
def DE (te : TE) (f : CF) : Prop := ∀ (H0 F H : Hp) (σ : L2.St) (ρ : Sl) (r : ER) (Q : VK), Rep K CA H0 F H σ ρ → f ρ = some r →
  (∀ v F' H', Gr F H F' H' → VOk K H F' H' v r → Q v H') → (∀ c, r = .e c → ∀ F' H', Gr F H F' H' → W (.ref (CA c)) none σ H') → te σ H Q
def DT (tt : TT) (f : CF) : Prop := ∀ (H0 F H : Hp) (σ : L2.St) (ρ : Sl) (r : ER) (Q : Bool → Hp → Prop), Rep K CA H0 F H σ ρ → f ρ = some r → ((∃ k, r = .d (.b k)) ∨ ∃ c, r = .e c) →
  (∀ k, r = .d (.b k) → ∀ F' H', Gr F H F' H' → Q k H') → (∀ c, r = .e c → ∀ F' H', Gr F H F' H' → W (.ref (CA c)) none σ H') → tt σ H Q
end
section
variable {K : PySem.W.Frag} {CA : EvC} {W : WX} {te ta tb tc : TE} {tt tu : TT} {f f1 f2 f3 : CF} {H0 F H : Hp} {σ : L2.St} {ρ : Sl} {z : ER} {g : PV → Option ER}
theorem DE.go {Q : VK} (h : DE K CA W te f) (R : Rep K CA H0 F H σ ρ) (hz : e1 g (f ρ) = some z) (he : ∀ c, z = .e c → ∀ F' H', Gr F H F' H' → W (.ref (CA c)) none σ H')
    (k : ∀ x v F' H', Gr F H F' H' → Val K F' H' v x → g x = some z → Q v H') : te σ H Q := by
  cases h1 : f ρ with
  | none => rw [h1] at hz; cases hz
  | some r =>
    rw [h1] at hz
    refine h H0 F H σ ρ r Q R h1 (fun v F' H' gr ok => ?_) fun c e F' H' gr => ?_
    · refine k r.pv v F' H' gr ok.va ?_
      cases r with
      | e c => exact ok.elim
      | _ => exact hz
    · subst e
      exact he c (Option.some.inj hz).symm F' H' gr
/-- what is kept -/
theorem VOk.keep {F' H' : Hp} {v : V} {r : ER} {x : PV} (s : Same F' H') (h : VOk K H F' H' v r) (e : r = .d x ∨ ∃ xs, r = .f xs ∧ x = .l xs) : ∃ F2, Gr F' H F2 H' ∨ (Same F' F2 ∧ Same F2 H' ∧ (∀ a o, F2 a = some o → F' a = some o ∨ H a = none)) ∧ Dat K F2 v x := by
  rcases e with rfl | ⟨xs, rfl, rfl⟩
  · exact ⟨F', .inr ⟨⟨Same.refl _, s, fun _ _ e => .inl e⟩, h⟩⟩
  · obtain ⟨p, vs, rfl, h0, h1, h2, h3⟩ := h
    refine ⟨upd F' p (.lst vs), .inr ⟨⟨same_new h1, fun a o e => ?_, fun a o e => ?_⟩, .l upd_same (h3.mono (same_new h1))⟩⟩
    · by_cases ha : a = p
      · subst ha; rw [upd_same] at e; cases e; exact h2
      · rw [upd_ne ha] at e; exact s a o e
    · by_cases ha : a = p
      · subst ha; exact .inr h0
      · rw [upd_ne ha] at e; exact .inl e
theorem VOk.frz {F' H' : Hp} {v : V} {r : ER} {x : PV} (gr : Gr F H F' H') (h : VOk K H F' H' v r) (e : r = .d x ∨ ∃ xs, r = .f xs ∧ x = .l xs) : ∃ F2, Gr F H F2 H' ∧ Dat K F2 v x := by
  rcases e with rfl | ⟨xs, rfl, rfl⟩
  · exact ⟨F', gr, h⟩
  · obtain ⟨p, vs, rfl, h0, h1, h2, h3⟩ := h
    refine ⟨upd F' p (.lst vs), ⟨gr.f.trans (same_new h1), gr.h, fun a o e => ?_, fun a o e => ?_⟩, .l upd_same (h3.mono (same_new h1))⟩
    · by_cases ha : a = p
      · subst ha; rw [upd_same] at e; cases e; exact h2
      · rw [upd_ne ha] at e; exact gr.s a o e
    · by_cases ha : a = p
      · subst ha; exact .inr h0
      · rw [upd_ne ha] at e; exact gr.o a o e
theorem DE.goS {Q : VK} (h : DE K CA W te f) (R : Rep K CA H0 F H σ ρ) (hz : eS g (f ρ) = some z) (he : ∀ c, z = .e c → ∀ F' H', Gr F H F' H' → W (.ref (CA c)) none σ H')
    (k : ∀ x v F' H', Gr F H F' H' → Dat K F' v x → g x = some z → Q v H') : te σ H Q := by
  cases h1 : f ρ with
  | none => rw [h1] at hz; cases hz
  | some r =>
    rw [h1] at hz
    refine h H0 F H σ ρ r Q R h1 (fun v F' H' gr ok => ?_) fun c e F' H' gr => ?_
    · cases r with
      | e c => exact ok.elim
      | d x => exact k x v F' H' gr ok hz
      | m xs => cases hz
      | f xs =>
        obtain ⟨F2, gr2, hd⟩ := ok.frz gr (.inr ⟨xs, rfl, rfl⟩)
        exact k (.l xs) v F2 H' gr2 hd hz
    · subst e
      exact he c (Option.some.inj hz).symm F' H' gr

/-! ### values of a kind -/
theorem Val.i {v : V} {x : Int} (h : Val K F H v (.i x)) : v = .int x := by
  rcases h with h | ⟨_, _, _, _, h, _⟩
  · cases h; rfl
  · cases h
theorem Val.b {v : V} {x : Bool} (h : Val K F H v (.b x)) : v = .bl x := by
  rcases h with h | ⟨_, _, _, _, h, _⟩
  · cases h; rfl
  · cases h
theorem Val.s {v : V} {x : List Nat} (h : Val K F H v (.s x)) : v = .str ⟨x.toArray⟩ := by
  rcases h with h | ⟨_, _, _, _, h, _⟩
  · cases h; rfl
  · cases h
theorem Val.n {v : V} (h : Val K F H v .n) : v = .non := by
  rcases h with h | ⟨_, _, _, _, h, _⟩
  · cases h; rfl
  · cases h
theorem Val.l {v : V} {xs : List PV} (s : Same F H) (h : Val K F H v (.l xs)) : ∃ a vs, v = .ref a ∧ H a = some (.lst vs) ∧ Dats K F vs xs := by
  rcases h with h | ⟨p, vs, ys, e1, e2, h1, h2⟩
  · cases h with
    | l h1 h2 => exact ⟨_, _, rfl, s _ _ h1, h2⟩
  · cases e2
    exact ⟨p, vs, e1, h1, h2⟩
theorem Val.t {v : V} {xs : List PV} (s : Same F H) (h : Val K F H v (.t xs)) : ∃ a vs, v = .ref a ∧ SqT K H a vs ∧ Dats K F vs xs := by
  rcases h with h | ⟨p, vs, ys, e1, e2, h1, h2⟩
  · cases h with
    | t h1 h2 => exact ⟨_, _, rfl, SqT.of (s _ _ h1), h2⟩
  · cases e2
theorem Val.zl {v : V} {ns : List Int} (s : Same F H) (h : Val K F H v (.z ns)) : ∃ a, v = .ref a ∧ SqL K H a (ns.map V.int) := by
  rcases h with h | ⟨p, vs, ys, e1, e2, h1, h2⟩
  · cases h with
    | z _ h => exact ⟨_, rfl, s.seq h⟩
  · cases e2
theorem Val.of {v : V} {x : PV} (h : Dat K F v x) : Val K F H v x := .inl h

/-! ### names, constants -/
def cV (i : Nat) : CF := fun ρ => match ρ[i]? with
  | some (.d x) => some (.d x)
  | some (.m xs) => some (.m xs)
  | _ => none
def cK (x : PV) : CF := fun _ => some (.d x)
theorem de_var {i : Nat} : DE K CA W (tVar i) (cV i) := by
  intro H0 F H σ ρ r Q R hz hq _
  unfold cV at hz
  cases h : ρ[i]? with
  | none => rw [h] at hz; cases hz
  | some s =>
    rw [h] at hz
    cases s with
    | u => cases hz
    | d x =>
      cases hz
      obtain ⟨v, h1, h2⟩ := R.dat i x h
      exact ⟨v, h1, hq v F H (Gr.refl R.sub) h2⟩
    | m xs =>
      cases hz
      obtain ⟨p, vs, h1, h2, h3, h4, h5⟩ := R.mt h
      exact ⟨_, h1, hq _ F H (Gr.refl R.sub) ⟨p, vs, rfl, h4, h5⟩⟩
    | _ => cases hz
theorem de_c {v : V} {x : PV} (h : ∀ F, Dat K F v x) : DE K CA W (tC v) (cK x) := by
  intro H0 F H σ ρ r Q R hz hq _
  cases hz
  exact hq v F H (Gr.refl R.sub) (h F)

/-! ### operators -/
def c2 (g : PV → PV → Option ER) (f1 f2 : CF) : CF := fun ρ => e1 (fun x => e1 (g x) (f2 ρ)) (f1 ρ)
def c1 (g : PV → Option ER) (f : CF) : CF := fun ρ => e1 g (f ρ)
def Op2 (K : PySem.W.Frag) (r : R2) (g : PV → PV → Option ER) : Prop := ∀ (F H : Hp) (x y : V) (a b : PV) (z : ER) (Q : VK), Same F H → Val K F H x a → Val K F H y b → g a b = some z →
  (∀ v F' H', Gr F H F' H' → VOk K H F' H' v z → Q v H') → r x y H Q
def Op1 (K : PySem.W.Frag) (r : V → Hp → VK → Prop) (g : PV → Option ER) : Prop := ∀ (F H : Hp) (x : V) (a : PV) (z : ER) (Q : VK), Same F H → Val K F H x a → g a = some z →
  (∀ v F' H', Gr F H F' H' → VOk K H F' H' v z → Q v H') → r x H Q
theorem de_2 {r : R2} {g : PV → PV → Option ER} (ho : Op2 K r g) (ha : DE K CA W ta f1) (hb : DE K CA W tb f2) : DE K CA W (tOp r ta tb) (c2 g f1 f2) := by
  intro H0 F H σ ρ z Q R hz hq he
  refine ha.go R hz he fun x v F1 H1 g1 o1 h1 => ?_
  refine hb.go (R.up g1) h1 (fun c e F' H' gr => he c e F' H' (g1.trans gr)) fun y w F2 H2 g2 o2 h2 => ?_
  exact ho F2 H2 v w x y z Q g2.s (o1.up g2) o2 h2 fun u F' H' g3 ok => hq u F' H' (g1.trans (g2.trans g3)) (ok.back (g1.h.trans g2.h))
theorem de_1 {r : V → Hp → VK → Prop} {g : PV → Option ER} (ho : Op1 K r g) (ha : DE K CA W ta f1) : DE K CA W (tUn r ta) (c1 g f1) := by
  intro H0 F H σ ρ z Q R hz hq he
  refine ha.go R hz he fun x v F1 H1 g1 o1 h1 => ?_
  exact ho F1 H1 v x z Q g1.s o1 h1 fun u F' H' g3 ok => hq u F' H' (g1.trans g3) (ok.back g1.h)
theorem Op2.or1 {r r' : R2} {g : PV → PV → Option ER} (h : Op2 K r g) : Op2 K (fun x y H Q => r x y H Q ∨ r' x y H Q) g := fun F H x y a b z Q s v1 v2 e k => .inl (h F H x y a b z Q s v1 v2 e k)
/-- scalars out -/
theorem vok_d {F' H' : Hp} {v : V} {x : PV} (h : Dat K F' v x) : VOk K H F' H' v (.d x) := h

/-! ### data of a list, a tuple in the heap -/
theorem Dats.atI {vs : List V} {xs : List PV} {i : Int} {x : PV} (h : Dats K F vs xs) (e : L2.atI xs i = some x) : ∃ v, L2.atI vs i = some v ∧ Dat K F v x := by
  unfold L2.atI at e ⊢
  rw [h.length]
  cases hj : ixN xs.length i with
  | none => rw [hj] at e; cases e
  | some j =>
    rw [hj] at e
    exact h.get e
def cutP {α : Type} (xs : List α) (lo hi : Option Int) : List α := (xs.drop (HT.sIx xs.length 0 lo)).take (HT.sIx xs.length xs.length hi - HT.sIx xs.length 0 lo)
theorem Dats.cut {vs : List V} {xs : List PV} {lo hi : Option Int} (h : Dats K F vs xs) : Dats K F (cutV vs lo hi) (cutP xs lo hi) := by
  unfold cutV cutP
  rw [h.length]
  exact (h.drop _).take _

/-! ### arithmetic -/
def big : Nat := 16777216
theorem big_eq : sizeLine = big := sizeLine_eq
def gAdd : PV → PV → Option ER
  | .i x, .i y => some (.d (.i (x + y)))
  | .s x, .s y => if x.length + y.length ≤ big then some (.d (.s (x ++ y))) else none
  | .l x, .l y => if x.length + y.length ≤ big then some (.f (x ++ y)) else none
  | _, _ => none
def rAddA : R2 := fun x y H Q => rI0 (fun i j => .int (i + j)) x y H Q ∨ (∃ i j, x = .str i ∧ y = .str j ∧ i.length + j.length ≤ sizeLine ∧ Q (.str (i ++ j)) H) ∨ rCat x y H Q
theorem or_addA {X : Cx} : OpR X (binaryOp .Add) rAddA := OpR.or op_add (OpR.or op_add_str op_cat)
theorem str_len (x : List Nat) : (⟨x.toArray⟩ : Str).length = x.length := by simp [Str.length]
theorem str_app (x y : List Nat) : (⟨x.toArray⟩ : Str) ++ (⟨y.toArray⟩ : Str) = ⟨(x ++ y).toArray⟩ :=
  congrArg Str.mk (show x.toArray ++ y.toArray = (x ++ y).toArray by simp)
theorem op_addA : Op2 K rAddA gAdd := by
  intro F H x y a b z Q s v1 v2 e k
  unfold gAdd at e
  split at e
  · cases e
    exact .inl ⟨_, _, v1.i, v2.i, k _ F H (Gr.refl s) (.i _)⟩
  · split at e
    · rename_i x1 y1 hl
      cases e
      refine .inr (.inl ⟨_, _, v1.s, v2.s, ?_, ?_⟩)
      · rw [str_len, str_len, big_eq]; exact hl
      · rw [str_app]; exact k _ F H (Gr.refl s) (.s _)
    · cases e
  · split at e
    · rename_i x1 y1 hl
      cases e
      obtain ⟨a, vs, rfl, h1, h2⟩ := v1.l s
      obtain ⟨b, ws, rfl, h3, h4⟩ := v2.l s
      refine .inr (.inr ⟨a, b, vs, ws, rfl, rfl, h1, h3, ?_, fun p hp => ?_⟩)
      · rw [h2.length, h4.length, big_eq]; exact hl
      · exact k _ F _ (Gr.new s hp) ⟨p, _, rfl, hp, s.free hp, upd_same, h2.append h4⟩
    · cases e
  · cases e
def gInt2 (g : Int → Int → PV) : PV → PV → Option ER
  | .i x, .i y => some (.d (g x y))
  | _, _ => none
def gInt2C (C : Int → Int → Prop) [∀ i j, Decidable (C i j)] (g : Int → Int → PV) : PV → PV → Option ER
  | .i x, .i y => if C x y then some (.d (g x y)) else none
  | _, _ => none
theorem op_int2 {g : Int → Int → V} {g' : Int → Int → PV} (h : ∀ i j F, Dat K F (g i j) (g' i j)) : Op2 K (rI0 g) (gInt2 g') := by
  intro F H x y a b z Q s v1 v2 e k
  unfold gInt2 at e
  split at e
  · cases e
    exact ⟨_, _, v1.i, v2.i, k _ F H (Gr.refl s) (h _ _ F)⟩
  · cases e
theorem op_int2C {C : Int → Int → Prop} [∀ i j, Decidable (C i j)] {g : Int → Int → V} {g' : Int → Int → PV} (h : ∀ i j F, Dat K F (g i j) (g' i j)) : Op2 K (rI C g) (gInt2C C g') := by
  intro F H x y a b z Q s v1 v2 e k
  unfold gInt2C at e
  split at e
  · split at e
    · rename_i hc
      cases e
      exact ⟨_, _, v1.i, v2.i, hc, k _ F H (Gr.refl s) (h _ _ F)⟩
    · cases e
  · cases e
instance decMul (i j : Int) : Decidable (CMul i j) := by unfold CMul; infer_instance
instance decDiv (i j : Int) : Decidable (CDiv i j) := by unfold CDiv; infer_instance
instance decPow (i j : Int) : Decidable (CPow i j) := by unfold CPow; infer_instance
def CPos (_ j : Int) : Prop := 0 < j
instance decPos (i j : Int) : Decidable (CPos i j) := by unfold CPos; infer_instance
def gSub := gInt2 fun x y => .i (x - y)
def CMulN (i j : Int) : Prop := i.natAbs < 18446744073709551616 ∨ j.natAbs < 18446744073709551616
instance decMulN (i j : Int) : Decidable (CMulN i j) := by unfold CMulN; infer_instance
def gMul := gInt2C CMulN fun x y => .i (x * y)
theorem op_mulP : Op2 K (rI CMul fun i j => .int (i * j)) gMul := by
  intro F H x y a b z Q s v1 v2 e k
  unfold gMul gInt2C at e
  split at e
  · split at e
    · rename_i hc
      cases e
      refine ⟨_, _, v1.i, v2.i, ?_, k _ F H (Gr.refl s) (.i _)⟩
      unfold CMulN at hc
      unfold CMul
      omega
    · cases e
  · cases e
def gMod := gInt2C CPos fun x y => .i (x % y)
def gDiv := gInt2C CDiv fun x y => .i (x / y)
def gPow := gInt2C CPow fun x y => .i (x ^ y.toNat)
def gLt := gInt2 fun x y => .b (decide (x < y))
def gLe := gInt2 fun x y => .b (decide (x ≤ y))
def gGt := gInt2 fun x y => .b (decide (y < x))
def gGe := gInt2 fun x y => .b (decide (y ≤ x))
def gNeg : PV → Option ER
  | .i x => some (.d (.i (-x)))
  | _ => none
theorem op_neg : Op1 K (rU fun i => .int (-i)) gNeg := by
  intro F H x a z Q s v1 e k
  unfold gNeg at e
  split at e
  · cases e
    exact ⟨_, v1.i, k _ F H (Gr.refl s) (.i _)⟩
  · cases e

/-! ### == and != -/
def gEq (a b : PV) : Option ER := if dep a ≤ 60 ∧ dep b ≤ 60 then some (.d (.b (eqv a b))) else none
def gNe (a b : PV) : Option ER := if dep a ≤ 60 ∧ dep b ≤ 60 then some (.d (.b (!eqv a b))) else none
def rEqP (K : PySem.W.Frag) : R2 := fun x y H Q => ∃ d e, Dp K H x d ∧ Dp K H y e ∧ d.plain = true ∧ e.plain = true ∧ min d.depth e.depth ≤ 60 ∧ Q (.bl (PyData.eqv d e)) H
def rNeP (K : PySem.W.Frag) : R2 := fun x y H Q => ∃ d e, Dp K H x d ∧ Dp K H y e ∧ d.plain = true ∧ e.plain = true ∧ min d.depth e.depth ≤ 60 ∧ Q (.bl (!PyData.eqv d e)) H
theorem or_eqP {X : Cx} (hu : X.A.units + 64 < cLine) : OpR X (compareOp .Eq) (rEqP X.K) := by
  intro pins s σ H x y v u Q I rx ry h
  obtain ⟨d, e, hd, he, sd, se, hm, q⟩ := h
  obtain ⟨as, r1⟩ := Dp.reads I d x v hd rx
  obtain ⟨bs, r2⟩ := Dp.reads I e y u he ry
  exact SeqAt.eq_plain r1 r2 sd se (by omega) ⟨.bl _, H, I, rfl, q⟩
theorem or_neP {X : Cx} (hu : X.A.units + 64 < cLine) : OpR X (compareOp .NotEq) (rNeP X.K) := by
  intro pins s σ H x y v u Q I rx ry h
  obtain ⟨d, e, hd, he, sd, se, hm, q⟩ := h
  obtain ⟨as, r1⟩ := Dp.reads I d x v hd rx
  obtain ⟨bs, r2⟩ := Dp.reads I e y u he ry
  exact SeqAt.ne_plain r1 r2 sd se (by omega) ⟨.bl _, H, I, rfl, q⟩
theorem op_eqP : Op2 K (rEqP K) gEq := by
  intro F H x y a b z Q s v1 v2 e k
  unfold gEq at e
  split at e
  · rename_i hd
    cases e
    refine ⟨_, _, (v1.dat s).dp (by omega), (v2.dat s).dp (by omega), plain_py _, plain_py _, ?_, ?_⟩
    · have := depth_py a
      have := depth_py b
      omega
    · rw [eqv_py]; exact k _ F H (Gr.refl s) (.b _)
  · cases e
theorem op_neP : Op2 K (rNeP K) gNe := by
  intro F H x y a b z Q s v1 v2 e k
  unfold gNe at e
  split at e
  · rename_i hd
    cases e
    refine ⟨_, _, (v1.dat s).dp (by omega), (v2.dat s).dp (by omega), plain_py _, plain_py _, ?_, ?_⟩
    · have := depth_py a
      have := depth_py b
      omega
    · rw [eqv_py]; exact k _ F H (Gr.refl s) (.b _)
  · cases e
/-- is None, is not None -/
def gIsN : PV → PV → Option ER
  | .n, .n => some (.d (.b true))
  | _, .n => some (.d (.b false))
  | _, _ => none
def gNoN : PV → PV → Option ER
  | .n, .n => some (.d (.b false))
  | _, .n => some (.d (.b true))
  | _, _ => none
theorem Val.non_iff {v : V} {x : PV} (h : Val K F H v x) : v = .non ↔ x = .n := by
  rcases h with h | ⟨_, _, _, e1, e2, _⟩
  · cases h <;> simp
  · subst e1 e2; simp
theorem op_isNP : Op2 K (fun x y H Q => y = .non ∧ Q (.bl (decide (x = .non))) H) gIsN := by
  intro F H x y a b z Q s v1 v2 e k
  unfold gIsN at e
  split at e
  · cases e
    refine ⟨v2.n, ?_⟩
    rw [decide_eq_true v1.n]
    exact k _ F H (Gr.refl s) (.b _)
  · rename_i hn
    cases e
    refine ⟨v2.n, ?_⟩
    rw [decide_eq_false fun q => hn (v1.non_iff.mp q)]
    exact k _ F H (Gr.refl s) (.b _)
  · cases e
theorem op_noNP : Op2 K (fun x y H Q => y = .non ∧ Q (.bl (!decide (x = .non))) H) gNoN := by
  intro F H x y a b z Q s v1 v2 e k
  unfold gNoN at e
  split at e
  · cases e
    refine ⟨v2.n, ?_⟩
    rw [decide_eq_true v1.n]
    exact k _ F H (Gr.refl s) (.b _)
  · rename_i hn
    cases e
    refine ⟨v2.n, ?_⟩
    rw [decide_eq_false fun q => hn (v1.non_iff.mp q)]
    exact k _ F H (Gr.refl s) (.b _)
  · cases e
end
end DD
/-! subscripts, slices, displays, built-in calls, tests -/
namespace DD
open PySem PySem.Spec L2
section
variable {K : PySem.W.Frag} {CA : EvC} {W : WX} {te ta tb tc : TE} {tt tu : TT} {f f1 f2 f3 : CF} {H0 F H : Hp} {σ : L2.St} {ρ : Sl} {g : PV → Option ER}

/-! ### subscripts -/
def gIdx : PV → PV → Option ER
  | .l xs, .i k => (L2.atI xs k).map .d
  | .t xs, .i k => (L2.atI xs k).map .d
  | .s cs, .i k => if cs.length ≤ big then (L2.atI cs k).map fun c => .d (.s [c]) else none
  | .z ns, .i k => (L2.atI ns k).map fun n => .d (.i n)
  | _, _ => none
theorem atI_map {α β : Type} (f : α → β) (xs : List α) (i : Int) : L2.atI (xs.map f) i = (L2.atI xs i).map f := by
  unfold L2.atI
  rw [List.length_map]
  cases ixN xs.length i with
  | none => rfl
  | some j => simp
theorem op_idx : Op2 K (rIx K) gIdx := by
  intro F H x y a b z Q s v1 v2 e k
  unfold gIdx at e
  split at e
  · rename_i xs j
    obtain ⟨p, vs, rfl, h1, h2⟩ := v1.l s
    cases ha : L2.atI xs j with
    | none => rw [ha] at e; cases e
    | some x =>
      rw [ha] at e
      cases e
      obtain ⟨v, e1, e2⟩ := h2.atI ha
      exact .inl ⟨p, vs, j, v, rfl, v2.i, SqL.of h1, e1, k _ F H (Gr.refl s) e2⟩
  · rename_i xs j
    obtain ⟨p, vs, rfl, h1, h2⟩ := v1.t s
    cases ha : L2.atI xs j with
    | none => rw [ha] at e; cases e
    | some x =>
      rw [ha] at e
      cases e
      obtain ⟨v, e1, e2⟩ := h2.atI ha
      exact .inr (.inl ⟨p, vs, j, v, rfl, v2.i, h1, e1, k _ F H (Gr.refl s) e2⟩)
  · rename_i cs j
    split at e
    · rename_i hl
      cases ha : L2.atI cs j with
      | none => rw [ha] at e; cases e
      | some c =>
        rw [ha] at e
        cases e
        refine .inr (.inr ⟨_, j, c, v1.s, v2.i, ?_, ha, k _ F H (Gr.refl s) (Dat.s [c])⟩)
        rw [str_len, big_eq]; exact hl
    · cases e
  · rename_i ns j
    obtain ⟨p, rfl, h1⟩ := v1.zl s
    cases ha : L2.atI ns j with
    | none => rw [ha] at e; cases e
    | some n =>
      rw [ha] at e
      cases e
      refine .inl ⟨p, _, j, .int n, rfl, v2.i, h1, ?_, k _ F H (Gr.refl s) (.i n)⟩
      rw [atI_map, ha]
      rfl
  · cases e

/-! ### slices -/
def gCut : PV → Option Int → Option Int → Option ER
  | .s cs, lo, hi => if cs.length ≤ big then some (.d (.s (cutP cs lo hi))) else none
  | .l xs, lo, hi => some (.f (cutP xs lo hi))
  | .t xs, lo, hi => if HT.sIx xs.length 0 lo = 0 ∧ HT.sIx xs.length xs.length hi = xs.length then none else some (.d (.t (cutP xs lo hi)))
  | _, _, _ => none
/-- a slice's part -/
def cP (g : Option Int → Option ER) : Option CF → Sl → Option ER
  | none, _ => g none
  | some f, ρ => e1 (fun x => match x with | .i k => g (some k) | _ => none) (f ρ)
def cSl (f : CF) (lo hi : Option CF) : CF := fun ρ => e1 (fun x => cP (fun a => cP (fun b => gCut x a b) hi ρ) lo ρ) (f ρ)
/-- how a slice's part is read -/
def DO (K : PySem.W.Frag) (CA : EvC) (W : WX) (to : TO) (p : Option CF) : Prop := ∀ (H0 F H : Hp) (σ : L2.St) (ρ : Sl) (z : ER) (g : Option Int → Option ER) (Q : Option Int → Hp → Prop), Rep K CA H0 F H σ ρ → cP g p ρ = some z →
  (∀ c, z = .e c → ∀ F' H', Gr F H F' H' → W (.ref (CA c)) none σ H') → (∀ o F' H', Gr F H F' H' → g o = some z → Q o H') → to σ H Q
theorem do_none : DO K CA W tNoPart none := fun _ F H _ _ _ _ _ R e _ k => k none F H (Gr.refl R.sub) e
theorem do_some (h : DE K CA W te f) : DO K CA W (tPart te) (some f) := by
  intro H0 F H σ ρ z g Q R hz he k
  refine h.go R hz he fun x v F1 H1 g1 o1 h1 => ?_
  cases x with
  | i j => exact ⟨j, o1.i, k _ F1 H1 g1 h1⟩
  | _ => cases h1
def rSlA (K : PySem.W.Frag) : V → Option Int → Option Int → Hp → VK → Prop := fun x lo hi H Q => rSlS x lo hi H Q ∨ rSlL K x lo hi H Q ∨ rSlT K x lo hi H Q
theorem sl_any {X : Cx} : SlR X (rSlA X.K) := SlR.or sl_str (SlR.or sl_list sl_tup)
theorem str_cut (cs : List Nat) (lo hi : Option Int) : cutS ⟨cs.toArray⟩ lo hi = ⟨(cutP cs lo hi).toArray⟩ := by
  unfold cutS cutP
  rw [str_len]
theorem de_sl {to1 to2 : TO} {lo hi : Option CF} (h : DE K CA W te f) (h1 : DO K CA W to1 lo) (h2 : DO K CA W to2 hi) : DE K CA W (tSl (rSlA K) te to1 to2) (cSl f lo hi) := by
  intro H0 F H σ ρ z Q R hz hq he
  refine h.go R hz he fun x v F1 H1 g1 o1 e1 => ?_
  refine h1 H0 F1 H1 σ ρ z _ _ (R.up g1) e1 (fun c e F' H' gr => he c e F' H' (g1.trans gr)) fun a F2 H2 g2 e2 => ?_
  have g12 := g1.trans g2
  refine h2 H0 F2 H2 σ ρ z _ _ (R.up g12) e2 (fun c e F' H' gr => he c e F' H' (g12.trans gr)) fun b F3 H3 g3 e3 => ?_
  have g13 := g12.trans g3
  have v3 : Val K F3 H3 v x := (o1.up g2).up g3
  unfold gCut at e3
  split at e3
  · split at e3
    · rename_i hl
      cases e3
      refine .inl ⟨_, v3.s, by rw [str_len, big_eq]; exact hl, ?_⟩
      rw [str_cut]
      exact hq _ F3 H3 g13 (Dat.s _)
    · cases e3
  · cases e3
    obtain ⟨p, vs, rfl, q1, q2⟩ := v3.l g3.s
    refine .inr (.inl ⟨p, vs, rfl, SqL.of q1, fun p hp => ?_⟩)
    refine hq _ F3 _ (g13.trans (Gr.new g3.s hp)) ⟨p, _, rfl, g13.h.free hp, g3.s.free hp, upd_same, q2.cut⟩
  · rename_i xs lo' hi'
    split at e3
    · cases e3
    · rename_i hn
      cases e3
      obtain ⟨p, vs, rfl, q1, q2⟩ := v3.t g3.s
      refine .inr (.inr ⟨p, vs, rfl, q1, by rw [q2.length]; exact hn, fun p hp => ?_⟩)
      have hF : F3 p = none := g3.s.free hp
      exact hq _ _ _ (g13.trans (Gr.put g3.s hp)) (Dat.t upd_same (q2.cut.mono (same_new hF)))
  · cases e3

/-! ### lists of arguments -/
def cA (g : List PV → Option ER) : List CF → Sl → Option ER
  | [], _ => g []
  | f :: fs, ρ => eS (fun x => cA (fun xs => g (x :: xs)) fs ρ) (f ρ)
def DA (K : PySem.W.Frag) (CA : EvC) (W : WX) (ta : TA) (fs : List CF) : Prop := ∀ (H0 F H : Hp) (σ : L2.St) (ρ : Sl) (z : ER) (g : List PV → Option ER) (Q : List V → Hp → Prop), Rep K CA H0 F H σ ρ → cA g fs ρ = some z →
  (∀ c, z = .e c → ∀ F' H', Gr F H F' H' → W (.ref (CA c)) none σ H') → (∀ xs vs F' H', Gr F H F' H' → Dats K F' vs xs → g xs = some z → Q vs H') → ta σ H Q
theorem da_nil : DA K CA W tNil [] := fun _ F H _ _ _ _ _ R e _ k => k [] [] F H (Gr.refl R.sub) .nil e
theorem da_cons {tr : TA} {fs : List CF} (h : DE K CA W te f) (hr : DA K CA W tr fs) : DA K CA W (tCons te tr) (f :: fs) := by
  intro H0 F H σ ρ z g Q R hz he k
  refine h.goS R hz he fun x v F1 H1 g1 o1 e1 => ?_
  refine hr H0 F1 H1 σ ρ z _ _ (R.up g1) e1 (fun c e F' H' gr => he c e F' H' (g1.trans gr)) fun xs vs F2 H2 g2 o2 e2 => ?_
  exact k (x :: xs) (v :: vs) F2 H2 (g1.trans g2) (.cons (o1.mono g2.f) o2) e2
def cTup (fs : List CF) : CF := cA (fun xs => if xs.length ≤ big then some (.d (.t xs)) else none) fs
def cLst (fs : List CF) : CF := cA (fun xs => if xs.length ≤ big then some (.f xs) else none) fs
theorem de_tup {tas : TA} {fs : List CF} (h : DA K CA W tas fs) : DE K CA W (tTup tas) (cTup fs) := by
  intro H0 F H σ ρ z Q R hz hq he
  refine h H0 F H σ ρ z _ _ R hz he fun xs vs F1 H1 g1 o1 e1 => ?_
  split at e1
  · rename_i hl
    cases e1
    refine ⟨by rw [o1.length, big_eq]; exact hl, fun p hp => ?_⟩
    exact hq _ _ _ (g1.trans (Gr.put g1.s hp)) (Dat.t upd_same (o1.mono (same_new (g1.s.free hp))))
  · cases e1
theorem de_lst {tas : TA} {fs : List CF} (h : DA K CA W tas fs) : DE K CA W (tLst tas) (cLst fs) := by
  intro H0 F H σ ρ z Q R hz hq he
  refine h H0 F H σ ρ z _ _ R hz he fun xs vs F1 H1 g1 o1 e1 => ?_
  split at e1
  · rename_i hl
    cases e1
    refine ⟨by rw [o1.length, big_eq]; exact hl, fun p hp => ?_⟩
    exact hq _ _ _ (g1.trans (Gr.new g1.s hp)) ⟨p, _, rfl, g1.h.free hp, g1.s.free hp, upd_same, o1⟩
  · cases e1

/-! ### a built-in of one value, of two -/
def Op1C (K : PySem.W.Frag) (r : List V → Hp → VK → Prop) (g : PV → Option ER) : Prop := ∀ (F H : Hp) (x : V) (a : PV) (z : ER) (Q : VK), Same F H → Val K F H x a → g a = some z →
  (∀ v F' H', Gr F H F' H' → VOk K H F' H' v z → Q v H') → r [x] H Q
def Op2C (K : PySem.W.Frag) (r : List V → Hp → VK → Prop) (g : PV → PV → Option ER) : Prop := ∀ (F H : Hp) (x y : V) (a b : PV) (z : ER) (Q : VK), Same F H → Val K F H x a → Val K F H y b → g a b = some z →
  (∀ v F' H', Gr F H F' H' → VOk K H F' H' v z → Q v H') → r [x, y] H Q
theorem de_B1 {r : List V → Hp → VK → Prop} (ho : Op1C K r g) (ha : DE K CA W te f) : DE K CA W (tCB r (tCons te tNil)) (c1 g f) := by
  intro H0 F H σ ρ z Q R hz hq he
  refine ha.go R hz he fun x v F1 H1 g1 o1 h1 => ?_
  exact ho F1 H1 v x z Q g1.s o1 h1 fun u F' H' g3 ok => hq u F' H' (g1.trans g3) (ok.back g1.h)
theorem de_B2 {r : List V → Hp → VK → Prop} {g : PV → PV → Option ER} (ho : Op2C K r g) (ha : DE K CA W ta f1) (hb : DE K CA W tb f2) : DE K CA W (tCB r (tCons ta (tCons tb tNil))) (c2 g f1 f2) := by
  intro H0 F H σ ρ z Q R hz hq he
  refine ha.go R hz he fun x v F1 H1 g1 o1 h1 => ?_
  refine hb.go (R.up g1) h1 (fun c e F' H' gr => he c e F' H' (g1.trans gr)) fun y w F2 H2 g2 o2 h2 => ?_
  exact ho F2 H2 v w x y z Q g2.s (o1.up g2) o2 h2 fun u F' H' g3 ok => hq u F' H' (g1.trans (g2.trans g3)) (ok.back (g1.h.trans g2.h))
def gLen : PV → Option ER
  | .l xs => some (.d (.i xs.length))
  | .t xs => some (.d (.i xs.length))
  | .z xs => some (.d (.i xs.length))
  | .s cs => if cs.length ≤ big then some (.d (.i cs.length)) else none
  | _ => none
def rLenA (K : PySem.W.Frag) : List V → Hp → VK → Prop := fun xs H Q => ∃ x n, xs = [x] ∧ LenV K x H n ∧ Q (.int n) H
theorem op_len : Op1C K (rLenA K) gLen := by
  intro F H x a z Q s v1 e k
  unfold gLen at e
  split at e
  · cases e
    obtain ⟨p, vs, rfl, h1, h2⟩ := v1.l s
    exact ⟨_, _, rfl, .inl ⟨vs, SqL.of h1, h2.length.symm⟩, k _ F H (Gr.refl s) (Dat.i _)⟩
  · cases e
    obtain ⟨p, vs, rfl, h1, h2⟩ := v1.t s
    exact ⟨_, _, rfl, .inr ⟨vs, h1, h2.length.symm⟩, k _ F H (Gr.refl s) (Dat.i _)⟩
  · rename_i ns
    cases e
    obtain ⟨p, rfl, h1⟩ := v1.zl s
    exact ⟨_, ns.length, rfl, .inl ⟨_, h1, by rw [List.length_map]⟩, k _ F H (Gr.refl s) (Dat.i _)⟩
  · rename_i cs
    split at e
    · rename_i hl
      cases e
      refine ⟨_, cs.length, congrArg (fun t => [t]) v1.s, ⟨?_, (str_len cs).symm⟩, k _ F H (Gr.refl s) (Dat.i _)⟩
      rw [str_len, big_eq]; exact hl
    · cases e
  · cases e
def gOrd : PV → Option ER
  | .s [c] => some (.d (.i c))
  | _ => none
def rOrd : List V → Hp → VK → Prop := fun xs H Q => ∃ x, xs = [.str x] ∧ x.length = 1 ∧ Q (.int (x.cps.getD 0 0 : Nat)) H
theorem op_ord : Op1C K rOrd gOrd := by
  intro F H x a z Q s v1 e k
  unfold gOrd at e
  split at e
  · cases e
    exact ⟨_, congrArg (fun t => [t]) v1.s, rfl, k _ F H (Gr.refl s) (Dat.i _)⟩
  · cases e
def gInt : PV → Option ER
  | .i x => some (.d (.i x))
  | .b x => some (.d (.i (if x then 1 else 0)))
  | _ => none
def rInt1 : List V → Hp → VK → Prop := fun xs H Q => (∃ i, xs = [.int i] ∧ Q (.int i) H) ∨ ∃ k, xs = [.bl k] ∧ Q (.int (if k then 1 else 0)) H
theorem op_int1 : Op1C K rInt1 gInt := by
  intro F H x a z Q s v1 e k
  unfold gInt at e
  split at e
  · cases e
    exact .inl ⟨_, congrArg (fun t => [t]) v1.i, k _ F H (Gr.refl s) (Dat.i _)⟩
  · cases e
    exact .inr ⟨_, congrArg (fun t => [t]) v1.b, k _ F H (Gr.refl s) (Dat.i _)⟩
  · cases e
def gMin2 := gInt2 fun i j => .i (if j < i then j else i)
def gMax2 := gInt2 fun i j => .i (if j > i then j else i)
def rMin2 : List V → Hp → VK → Prop := fun xs H Q => ∃ i j, xs = [.int i, .int j] ∧ Q (.int (if j < i then j else i)) H
def rMax2 : List V → Hp → VK → Prop := fun xs H Q => ∃ i j, xs = [.int i, .int j] ∧ Q (.int (if j > i then j else i)) H
theorem op_min2 : Op2C K rMin2 gMin2 := by
  intro F H x y a b z Q s v1 v2 e k
  unfold gMin2 gInt2 at e
  split at e
  · cases e
    exact ⟨_, _, by rw [v1.i, v2.i], k _ F H (Gr.refl s) (Dat.i _)⟩
  · cases e
theorem op_max2 : Op2C K rMax2 gMax2 := by
  intro F H x y a b z Q s v1 v2 e k
  unfold gMax2 gInt2 at e
  split at e
  · cases e
    exact ⟨_, _, by rw [v1.i, v2.i], k _ F H (Gr.refl s) (Dat.i _)⟩
  · cases e
/-- lists of ints, of truth values -/
def intsOf : List PV → Option (List Int)
  | [] => some []
  | .i x :: r => (intsOf r).map (x :: ·)
  | _ => none
def blsOf : List PV → Option (List Bool)
  | [] => some []
  | .b x :: r => (blsOf r).map (x :: ·)
  | _ => none
def strsOf : List PV → Option (List (List Nat))
  | [] => some []
  | .s x :: r => (strsOf r).map (x :: ·)
  | _ => none
theorem intsOf_eq : ∀ {xs : List PV} {ns : List Int}, intsOf xs = some ns → xs = ns.map .i
  | [], ns, h => by cases h; rfl
  | .i x :: r, ns, h => by
    unfold intsOf at h
    cases e : intsOf r with
    | none => rw [e] at h; cases h
    | some m => rw [e] at h; cases h; rw [intsOf_eq e]; rfl
  | .n :: _, _, h => by cases h
  | .b _ :: _, _, h => by cases h
  | .s _ :: _, _, h => by cases h
  | .t _ :: _, _, h => by cases h
  | .l _ :: _, _, h => by cases h
  | .z _ :: _, _, h => by cases h
  | .q _ _ _ :: _, _, h => by cases h
theorem blsOf_eq : ∀ {xs : List PV} {ns : List Bool}, blsOf xs = some ns → xs = ns.map .b
  | [], ns, h => by cases h; rfl
  | .b x :: r, ns, h => by
    unfold blsOf at h
    cases e : blsOf r with
    | none => rw [e] at h; cases h
    | some m => rw [e] at h; cases h; rw [blsOf_eq e]; rfl
  | .n :: _, _, h => by cases h
  | .i _ :: _, _, h => by cases h
  | .s _ :: _, _, h => by cases h
  | .t _ :: _, _, h => by cases h
  | .l _ :: _, _, h => by cases h
  | .z _ :: _, _, h => by cases h
  | .q _ _ _ :: _, _, h => by cases h
theorem strsOf_eq : ∀ {xs : List PV} {ns : List (List Nat)}, strsOf xs = some ns → xs = ns.map .s
  | [], ns, h => by cases h; rfl
  | .s x :: r, ns, h => by
    unfold strsOf at h
    cases e : strsOf r with
    | none => rw [e] at h; cases h
    | some m => rw [e] at h; cases h; rw [strsOf_eq e]; rfl
  | .n :: _, _, h => by cases h
  | .b _ :: _, _, h => by cases h
  | .i _ :: _, _, h => by cases h
  | .t _ :: _, _, h => by cases h
  | .l _ :: _, _, h => by cases h
  | .z _ :: _, _, h => by cases h
  | .q _ _ _ :: _, _, h => by cases h
@[simp] theorem intsOf_map : ∀ ns : List Int, intsOf (ns.map .i) = some ns
  | [] => rfl
  | n :: ns => by simp [intsOf, intsOf_map ns]
@[simp] theorem blsOf_map : ∀ ns : List Bool, blsOf (ns.map .b) = some ns
  | [] => rfl
  | n :: ns => by simp [blsOf, blsOf_map ns]
@[simp] theorem strsOf_map : ∀ ns : List (List Nat), strsOf (ns.map .s) = some ns
  | [] => rfl
  | n :: ns => by simp [strsOf, strsOf_map ns]
def gSum : PV → Option ER
  | .l xs => (intsOf xs).map fun ns => .d (.i ns.sum)
  | _ => none
def gAll : PV → Option ER
  | .l xs => (blsOf xs).map fun bs => .d (.b (bs.all id))
  | _ => none
theorem op_sum : Op1C K (rSum K) gSum := by
  intro F H x a z Q s v1 e k
  unfold gSum at e
  split at e
  · rename_i xs
    cases hi : intsOf xs with
    | none => rw [hi] at e; cases e
    | some ns =>
      rw [hi] at e
      cases e
      obtain ⟨p, vs, rfl, h1, h2⟩ := v1.l s
      rw [intsOf_eq hi] at h2
      rw [h2.ints] at h1
      exact ⟨p, ns, rfl, SqL.of h1, k _ F H (Gr.refl s) (Dat.i _)⟩
  · cases e
theorem op_all : Op1C K (rAll K) gAll := by
  intro F H x a z Q s v1 e k
  unfold gAll at e
  split at e
  · rename_i xs
    cases hi : blsOf xs with
    | none => rw [hi] at e; cases e
    | some ns =>
      rw [hi] at e
      cases e
      obtain ⟨p, vs, rfl, h1, h2⟩ := v1.l s
      rw [blsOf_eq hi] at h2
      rw [h2.bls] at h1
      exact ⟨p, ns, rfl, SqL.of h1, k _ F H (Gr.refl s) (Dat.b _)⟩
  · cases e
/-- list(xs) of a list, a tuple -/
def gList : PV → Option ER
  | .l xs => some (.f xs)
  | .t xs => some (.f xs)
  | _ => none
def rListO (K : PySem.W.Frag) : List V → Hp → VK → Prop := fun xs H Q => ∃ p ys, xs = [.ref p] ∧ (SqL K H p ys ∨ SqT K H p ys) ∧ ∀ l, H l = none → Q (.ref l) (upd H l (.lst ys))
theorem op_list : Op1C K (rListO K) gList := by
  intro F H x a z Q s v1 e k
  unfold gList at e
  split at e
  · cases e
    obtain ⟨p, vs, rfl, h1, h2⟩ := v1.l s
    exact ⟨p, vs, rfl, .inl (SqL.of h1), fun q hq => k _ F _ (Gr.new s hq) ⟨q, vs, rfl, hq, s.free hq, upd_same, h2⟩⟩
  · cases e
    obtain ⟨p, vs, rfl, h1, h2⟩ := v1.t s
    exact ⟨p, vs, rfl, .inr h1, fun q hq => k _ F _ (Gr.new s hq) ⟨q, vs, rfl, hq, s.free hq, upd_same, h2⟩⟩
  · cases e

/-! ### isinstance of a built-in type -/
def tyName : PV → String
  | .n => "NoneType" | .b _ => "bool" | .i _ => "int" | .s _ => "str" | .t _ => "tuple" | .l _ => "list" | .z _ => "list" | .q _ _ _ => "dict"
def gIs (T : String) (x : PV) : Option ER := (kitB (tyName x) T).map fun b => .d (.b b)
theorem sqT_ty {a : Addr} {vs : List V} (h : SqT K H a vs) : TyX K H (.ref a) (.type "tuple") := by
  rcases h with (h | ⟨o, h⟩) | ⟨o, its, n, h, hc, _⟩
  · exact .base (.tup h)
  · exact .fTuple h
  · exact .kTuple h hc
theorem sqL_ty {a : Addr} {vs : List V} (h : SqL K H a vs) : TyX K H (.ref a) (.type "list") := by
  rcases h with (h | ⟨o, h⟩) | ⟨o, its, n, h, hc, _⟩
  · exact .base (.lst h)
  · exact .base (.frz h)
  · exact .kList h hc
theorem Val.ty {v : V} {x : PV} (s : Same F H) (h : Val K F H v x) : TyX K H v (.type (tyName x)) ∨ ∃ a ks as ws, v = .ref a ∧ H a = some (dN a ks as ws) ∧ tyName x = "dict" := by
  cases x with
  | n => rw [h.n]; exact .inl (.base .non)
  | b _ => rw [h.b]; exact .inl (.base (.bl _))
  | i _ => rw [h.i]; exact .inl (.base (.int _))
  | s _ => rw [h.s]; exact .inl (.base (.str _))
  | t xs => obtain ⟨a, vs, rfl, h1, _⟩ := h.t s; exact .inl (sqT_ty h1)
  | l xs => obtain ⟨a, vs, rfl, h1, _⟩ := h.l s; exact .inl (sqL_ty (SqL.of h1))
  | z ns => obtain ⟨a, rfl, h1⟩ := h.zl s; exact .inl (sqL_ty h1)
  | q t ks xs =>
    rcases h with h | ⟨_, _, _, _, e2, _⟩
    · cases h with
      | q h1 h2 h3 =>
        cases t with
        | false =>
          obtain ⟨_, _, _, rfl⟩ := h2
          exact .inl (.base (.dK (s _ _ h1)))
        | true =>
          obtain ⟨_, _, _, as, _, rfl⟩ := h2
          exact .inr ⟨_, _, _, _, rfl, s _ _ h1, rfl⟩
    · cases e2
/-- isinstance(x, c), x a dict with tuples as keys, too -/
def rIsiN (K : PySem.W.Frag) : List V → Hp → VK → Prop := fun xs H Q => rIsi K xs H Q ∨ ∃ (a : Addr) (ks : List DK) (as : List Addr) (ws : List V) (c : V) (u : Value) (b : Bool), xs = [.ref a, c] ∧ H a = some (dN a ks as ws) ∧ ClsV c u ∧ PySem.W.kitOne K (.type "dict") u = some b ∧ Q (.bl b) H
theorem call_isiN {X : Cx} : CallR X (.builtin "isinstance") (rIsiN X.K) := by
  intro pins s σ H xs us Q I r h
  rcases h with h | ⟨a, ks, as, ws, c, u, b, rfl, ha, k, e, q⟩
  · exact call_isi pins s σ H xs us Q I r h
  · obtain ⟨u1, u2, rfl, r1, r2⟩ := vals2 r
    have e2 := k.eq r2
    subst e2
    cases (show u1 = Value.ref a from r1)
    obtain ⟨us, o, es, ep, _, h1, h2, _⟩ := (I.hok a _ ha).1
    exact PySem.W.kia_one PySem.W.kitx_dict I.kIn ⟨o, h1, h2.1⟩ e (fun z => nomatch z) fun tk => ⟨.bl b, H, I.tok tk, rfl, q⟩
theorem de_isi {T : String} (ha : DE K CA W te f) : DE K CA W (tCB (rIsiN K) (tCons te (tCons (tC (.ty T)) tNil))) (c1 (gIs T) f) := by
  intro H0 F H σ ρ z Q R hz hq he
  refine ha.go R hz he fun x v F1 H1 g1 o1 h1 => ?_
  unfold gIs at h1
  cases hb : kitB (tyName x) T with
  | none => rw [hb] at h1; cases h1
  | some b =>
    rw [hb] at h1
    cases h1
    rcases o1.ty g1.s with ty | ⟨a, ks, as, ws, rfl, ha, e⟩
    · exact .inl ⟨v, .ty T, _, _, b, rfl, .ty T, ty, kit_ty hb, hq _ F1 H1 g1 (Dat.b _)⟩
    · rw [e] at hb
      exact .inr ⟨a, ks, as, ws, .ty T, _, b, rfl, ha, .ty T, kit_ty hb, hq _ F1 H1 g1 (Dat.b _)⟩

/-! ### tests -/
def cNot (f : CF) : CF := fun ρ => match f ρ with
  | some (.d (.b k)) => some (.d (.b !k))
  | some (.e c) => some (.e c)
  | _ => none
def cAnd (f g : CF) : CF := fun ρ => match f ρ with
  | some (.d (.b true)) => g ρ
  | some (.d (.b false)) => some (.d (.b false))
  | some (.e c) => some (.e c)
  | _ => none
def cOr (f g : CF) : CF := fun ρ => match f ρ with
  | some (.d (.b true)) => some (.d (.b true))
  | some (.d (.b false)) => g ρ
  | some (.e c) => some (.e c)
  | _ => none
/-- what a test gives: a truth value, or an error -/
def isT (r : ER) : Prop := (∃ k, r = .d (.b k)) ∨ ∃ c, r = .e c
theorem DE.blk {Q : VK} (h : DE K CA W te f) (R : Rep K CA H0 F H σ ρ) {r : ER} (hz : f ρ = some r) (hT : isT r) (k : ∀ b, r = .d (.b b) → ∀ F' H', Gr F H F' H' → Q (.bl b) H') (he : ∀ c, r = .e c → ∀ F' H', Gr F H F' H' → W (.ref (CA c)) none σ H') : te σ H Q := by
  refine h H0 F H σ ρ r Q R hz (fun v F' H' gr ok => ?_) he
  rcases hT with ⟨b, rfl⟩ | ⟨c, rfl⟩
  · rw [ok.va.b]
    exact k b rfl F' H' gr
  · exact ok.elim
theorem dt_B (h : DE K CA W te f) : DT K CA W (tB te) f := fun H0 F H σ ρ r Q R hz hT k he => h.blk R hz hT (fun b e F' H' gr => ⟨b, rfl, k b e F' H' gr⟩) he
theorem dt_test (h : DE K CA W te f) : DT K CA W (tTest te) f := fun H0 F H σ ρ r Q R hz hT k he => h.blk R hz hT (fun b e F' H' gr => ⟨b, rfl, k b e F' H' gr⟩) he
theorem dt_not (h : DT K CA W tt f) : DT K CA W (tNot tt) (cNot f) := by
  intro H0 F H σ ρ r Q R hz hT k he
  unfold cNot at hz
  split at hz
  · rename_i b hb
    cases hz
    exact h H0 F H σ ρ _ _ R hb (.inl ⟨_, rfl⟩) (fun k' e F' H' gr => by cases e; exact k _ rfl F' H' gr) (fun c e => by cases e)
  · rename_i c hc
    cases hz
    exact h H0 F H σ ρ _ _ R hc (.inr ⟨_, rfl⟩) (fun k' e => by cases e) he
  · cases hz
theorem dt_and (h : DT K CA W tt f1) (h' : DT K CA W tu f2) : DT K CA W (tAnd tt tu) (cAnd f1 f2) := by
  intro H0 F H σ ρ r Q R hz hT k he
  unfold cAnd at hz
  split at hz
  · rename_i hb
    refine h H0 F H σ ρ _ _ R hb (.inl ⟨_, rfl⟩) (fun k' e F' H' gr => ?_) (fun c e => by cases e)
    cases e
    exact iteT (h' H0 F' H' σ ρ r Q (R.up gr) hz hT (fun b e F2 H2 g2 => k b e F2 H2 (gr.trans g2)) fun c e F2 H2 g2 => he c e F2 H2 (gr.trans g2))
  · rename_i hb
    cases hz
    refine h H0 F H σ ρ _ _ R hb (.inl ⟨_, rfl⟩) (fun k' e F' H' gr => ?_) (fun c e => by cases e)
    cases e
    exact iteF (k _ rfl F' H' gr)
  · rename_i c hc
    cases hz
    exact h H0 F H σ ρ _ _ R hc (.inr ⟨_, rfl⟩) (fun k' e => by cases e) he
  · cases hz
theorem dt_or (h : DT K CA W tt f1) (h' : DT K CA W tu f2) : DT K CA W (tOr tt tu) (cOr f1 f2) := by
  intro H0 F H σ ρ r Q R hz hT k he
  unfold cOr at hz
  split at hz
  · rename_i hb
    cases hz
    refine h H0 F H σ ρ _ _ R hb (.inl ⟨_, rfl⟩) (fun k' e F' H' gr => ?_) (fun c e => by cases e)
    cases e
    exact iteT (k _ rfl F' H' gr)
  · rename_i hb
    refine h H0 F H σ ρ _ _ R hb (.inl ⟨_, rfl⟩) (fun k' e F' H' gr => ?_) (fun c e => by cases e)
    cases e
    exact iteF (h' H0 F' H' σ ρ r Q (R.up gr) hz hT (fun b e F2 H2 g2 => k b e F2 H2 (gr.trans g2)) fun c e F2 H2 g2 => he c e F2 H2 (gr.trans g2))
  · rename_i c hc
    cases hz
    exact h H0 F H σ ρ _ _ R hc (.inr ⟨_, rfl⟩) (fun k' e => by cases e) he
  · cases hz
/-- .. as values -/
theorem de_not (h : DE K CA W te f) : DE K CA W (tNotV te) (cNot f) := by
  intro H0 F H σ ρ r Q R hz hq he
  unfold cNot at hz
  split at hz
  · rename_i b hb
    cases hz
    exact h.blk R hb (.inl ⟨_, rfl⟩) (fun b' e F' H' gr => by cases e; exact ⟨b, rfl, hq _ F' H' gr (Dat.b _)⟩) (fun c e => by cases e)
  · rename_i c hc
    cases hz
    exact h.blk R hc (.inr ⟨_, rfl⟩) (fun b' e => by cases e) he
  · cases hz
theorem de_and (h : DE K CA W ta f1) (h' : DE K CA W tb f2) : DE K CA W (tAndV ta tb) (cAnd f1 f2) := by
  intro H0 F H σ ρ r Q R hz hq he
  unfold cAnd at hz
  split at hz
  · rename_i hb
    refine h.blk R hb (.inl ⟨_, rfl⟩) (fun b e F' H' gr => ?_) (fun c e => by cases e)
    cases e
    exact ⟨true, rfl, iteT (h' H0 F' H' σ ρ r Q (R.up gr) hz (fun v F2 H2 g2 ok => hq v F2 H2 (gr.trans g2) (ok.back gr.h)) fun c e F2 H2 g2 => he c e F2 H2 (gr.trans g2))⟩
  · rename_i hb
    cases hz
    refine h.blk R hb (.inl ⟨_, rfl⟩) (fun b e F' H' gr => ?_) (fun c e => by cases e)
    cases e
    exact ⟨false, rfl, iteF (hq _ F' H' gr (Dat.b _))⟩
  · rename_i c hc
    cases hz
    exact h.blk R hc (.inr ⟨_, rfl⟩) (fun k' e => by cases e) he
  · cases hz
theorem de_or (h : DE K CA W ta f1) (h' : DE K CA W tb f2) : DE K CA W (tOrV ta tb) (cOr f1 f2) := by
  intro H0 F H σ ρ r Q R hz hq he
  unfold cOr at hz
  split at hz
  · rename_i hb
    cases hz
    refine h.blk R hb (.inl ⟨_, rfl⟩) (fun b e F' H' gr => ?_) (fun c e => by cases e)
    cases e
    exact ⟨true, rfl, iteT (hq _ F' H' gr (Dat.b _))⟩
  · rename_i hb
    refine h.blk R hb (.inl ⟨_, rfl⟩) (fun b e F' H' gr => ?_) (fun c e => by cases e)
    cases e
    exact ⟨false, rfl, iteF (h' H0 F' H' σ ρ r Q (R.up gr) hz (fun v F2 H2 g2 ok => hq v F2 H2 (gr.trans g2) (ok.back gr.h)) fun c e F2 H2 g2 => he c e F2 H2 (gr.trans g2))⟩
  · rename_i c hc
    cases hz
    exact h.blk R hc (.inr ⟨_, rfl⟩) (fun k' e => by cases e) he
  · cases hz
/-- a op b op' c -/
def cChain (g g' : PV → PV → Option ER) (f1 f2 f3 : CF) : CF := fun ρ => e1 (fun x => e1 (fun y => match g x y with
  | some (.d (.b true)) => e1 (fun w => g' y w) (f3 ρ)
  | some (.d (.b false)) => some (.d (.b false))
  | _ => none) (f2 ρ)) (f1 ρ)
theorem de_chain {r r' : R2} {g g' : PV → PV → Option ER} (ho : Op2 K r g) (ho' : Op2 K r' g') (ha : DE K CA W ta f1) (hb : DE K CA W tb f2) (hc : DE K CA W tc f3) : DE K CA W (tChain r r' ta tb tc) (cChain g g' f1 f2 f3) := by
  intro H0 F H σ ρ z Q R hz hq he
  refine ha.go R hz he fun x v F1 H1 g1 o1 h1 => ?_
  refine hb.go (R.up g1) h1 (fun c e F' H' gr => he c e F' H' (g1.trans gr)) fun y w F2 H2 g2 o2 h2 => ?_
  have g12 := g1.trans g2
  split at h2
  · rename_i hg
    refine ho F2 H2 v w x y _ _ g2.s (o1.up g2) o2 hg fun u F3 H3 g3 ok => ⟨true, ok.va.b, iteT ?_⟩
    have g13 := g12.trans g3
    refine hc.go (R.up g13) h2 (fun c e F' H' gr => he c e F' H' (g13.trans gr)) fun y' w' F4 H4 g4 o4 h4 => ?_
    exact ho' F4 H4 w w' y y' z Q g4.s ((o2.up g3).up g4) o4 h4 fun u F' H' g5 ok => hq u F' H' (g13.trans (g4.trans g5)) (ok.back (g13.h.trans g4.h))
  · rename_i hg
    cases h2
    refine ho F2 H2 v w x y _ _ g2.s (o1.up g2) o2 hg fun u F3 H3 g3 ok => ⟨false, ok.va.b, iteF ?_⟩
    exact hq _ F3 H3 (g12.trans g3) (Dat.b _)
  · cases h2
end
end DD
/-! what is walked, targets, comprehensions, calls of defs -/
namespace DD
open PySem PySem.Spec L2

/-! ### what is walked -/
/-- J yields the data xs, one after another -/
def Walks (K : PySem.W.Frag) (J : It) (F H : Hp) (xs : List PV) : Prop := ∀ (i : Nat) (F2 H2 : Hp), Same F F2 → Same F2 H2 →
  ((∀ d, xs[i]? = some d → J.go i H2 ∧ ∀ x H3, J.yld i H2 x H3 → ∃ F3, Gr F2 H2 F3 H3 ∧ Dat K F3 x d) ∧ (xs[i]? = none → J.stop i H2))
def CI := (List PV → Option ER) → Sl → Option ER
section
variable (K : PySem.W.Frag) (CA : EvC) (W : WX)
def DI (wi : TI) (it : CI) : Prop := ∀ (H0 F H : Hp) (σ : L2.St) (ρ : Sl) (z : ER) (g : List PV → Option ER) (R : It → Hp → Prop), Rep K CA H0 F H σ ρ → it g ρ = some z →
  (∀ c, z = .e c → ∀ F' H', Gr F H F' H' → W (.ref (CA c)) none σ H') → (∀ xs J F' H', Gr F H F' H' → Walks K J F' H' xs → g xs = some z → R J H') → wi σ H R
end
section
variable {K : PySem.W.Frag} {CA : EvC} {W : WX} {te ta tb tc : TE} {tt tu : TT} {f f1 f2 f3 : CF} {H0 F H : Hp} {σ : L2.St} {ρ : Sl}
def iL (f : CF) : CI := fun g ρ => eS (fun x => match x with | .l xs => g xs | _ => none) (f ρ)
def iT (f : CF) : CI := fun g ρ => eS (fun x => match x with | .t xs => g xs | _ => none) (f ρ)
def iS (f : CF) : CI := fun g ρ => eS (fun x => match x with | .s cs => g (cs.map fun c => .s [c]) | _ => none) (f ρ)
def lim : Nat := 4611686018427387904
def upTo (lo : Int) (n : Nat) : List PV := (List.range n).map fun k => .i (lo + (k : Nat))
def iR1 (f : CF) : CI := fun g ρ => e1 (fun x => match x with | .i n => if n.natAbs < lim then g (upTo 0 n.toNat) else none | _ => none) (f ρ)
def iR2 (f1 f2 : CF) : CI := fun g ρ => e1 (fun x => e1 (fun y => match x, y with
  | .i a, .i b => if a.natAbs < lim ∧ b.natAbs < lim then g (upTo a (b - a).toNat) else none
  | _, _ => none) (f2 ρ)) (f1 ρ)
theorem walks_list {a : Addr} {vs : List V} {xs : List PV} (h : F a = some (.lst vs)) (hs : Dats K F vs xs) : Walks K (Itl K a) F H xs := by
  intro i F2 H2 s1 s2
  have h2 : SqL K H2 a vs := SqL.of (s2 _ _ (s1 _ _ h))
  refine ⟨fun d hd => ?_, fun hn => ?_⟩
  · obtain ⟨v, e1, e2⟩ := hs.get hd
    refine ⟨⟨vs, v, h2, e1⟩, fun x H3 hy => ?_⟩
    obtain ⟨rfl, hy⟩ := hy
    have := hy vs h2
    rw [e1] at this
    cases this
    exact ⟨F2, Gr.refl s2, e2.mono s1⟩
  · refine ⟨vs, h2, ?_⟩
    rw [hs.length]
    exact List.getElem?_eq_none_iff.mp hn
theorem walks_tup {a : Addr} {vs : List V} {xs : List PV} (h : SqT K F a vs) (hs : Dats K F vs xs) : Walks K (Itt K a) F H xs := by
  intro i F2 H2 s1 s2
  have h2 : SqT K H2 a vs := Same.seqT s2 (Same.seqT s1 h)
  refine ⟨fun d hd => ?_, fun hn => ?_⟩
  · obtain ⟨v, e1, e2⟩ := hs.get hd
    refine ⟨⟨vs, v, h2, e1⟩, fun x H3 hy => ?_⟩
    obtain ⟨rfl, hy⟩ := hy
    have := hy vs h2
    rw [e1] at this
    cases this
    exact ⟨F2, Gr.refl s2, e2.mono s1⟩
  · refine ⟨vs, h2, ?_⟩
    rw [hs.length]
    exact List.getElem?_eq_none_iff.mp hn
theorem walks_str (cs : List Nat) : Walks K (Its ⟨cs.toArray⟩) F H (cs.map fun c => .s [c]) := by
  intro i F2 H2 s1 s2
  refine ⟨fun d hd => ?_, fun hn => ?_⟩
  · rw [List.getElem?_map] at hd
    cases hc : cs[i]? with
    | none => rw [hc] at hd; cases hd
    | some c =>
      rw [hc] at hd
      cases hd
      have hi : i < cs.length := (List.getElem?_eq_some_iff.mp hc).1
      refine ⟨by show i < (cs.toArray).size; simpa using hi, fun x H3 hy => ?_⟩
      obtain ⟨rfl, c', h1, rfl⟩ := hy
      have : c' = c := by
        have h2 : cs.toArray[i]? = some c' := h1
        rw [List.getElem?_toArray] at h2
        rw [hc] at h2
        exact (Option.some.inj h2).symm
      subst this
      exact ⟨F2, Gr.refl s2, Dat.s [c']⟩
  · show (cs.toArray).size ≤ i
    have := List.getElem?_eq_none_iff.mp hn
    simpa using this
theorem upTo_get {lo : Int} {n i : Nat} {d : PV} (h : (upTo lo n)[i]? = some d) : i < n ∧ d = .i (lo + (i : Nat)) := by
  unfold upTo at h
  rw [List.getElem?_map] at h
  by_cases hi : i < n
  · rw [List.getElem?_range hi] at h
    cases h
    exact ⟨hi, rfl⟩
  · rw [List.getElem?_eq_none_iff.mpr (by simp; omega)] at h
    cases h
theorem walks_rng (lo : Int) (n : Nat) : Walks K (Itr lo n) F H (upTo lo n) := by
  intro i F2 H2 s1 s2
  refine ⟨fun d hd => ?_, fun hn => ?_⟩
  · obtain ⟨hi, rfl⟩ := upTo_get hd
    refine ⟨hi, fun x H3 hy => ?_⟩
    obtain ⟨rfl, rfl⟩ := hy
    exact ⟨F2, Gr.refl s2, Dat.i _⟩
  · have := List.getElem?_eq_none_iff.mp hn
    unfold upTo at this
    show n ≤ i
    simpa using this
theorem di_list (h : DE K CA W te f) : DI K CA W (iList K te) (iL f) := by
  intro H0 F H σ ρ z g R Rp hz he k
  refine h.goS Rp hz he fun x v F1 H1 g1 o1 e1 => ?_
  cases o1 with
  | l h1 h2 => exact ⟨_, rfl, ⟨_, SqL.of (g1.s _ _ h1)⟩, k _ _ F1 H1 g1 (walks_list h1 h2) e1⟩
  | _ => cases e1
theorem di_tup (h : DE K CA W te f) : DI K CA W (iTup K te) (iT f) := by
  intro H0 F H σ ρ z g R Rp hz he k
  refine h.goS Rp hz he fun x v F1 H1 g1 o1 e1 => ?_
  cases o1 with
  | t h1 h2 => exact ⟨_, rfl, ⟨_, SqT.of (g1.s _ _ h1)⟩, k _ _ F1 H1 g1 (walks_tup (SqT.of h1) h2) e1⟩
  | _ => cases e1
theorem di_str (h : DE K CA W te f) : DI K CA W (iStr te) (iS f) := by
  intro H0 F H σ ρ z g R Rp hz he k
  refine h.goS Rp hz he fun x v F1 H1 g1 o1 e1 => ?_
  cases o1 with
  | s cs => exact ⟨_, rfl, k _ _ F1 H1 g1 (walks_str cs) e1⟩
  | _ => cases e1
theorem di_r1 (h : DE K CA W te f) : DI K CA W (iRng1 (tCons te tNil)) (iR1 f) := by
  intro H0 F H σ ρ z g R Rp hz he k
  refine h.go Rp hz he fun x v F1 H1 g1 o1 e1 => ?_
  cases x with
  | i n =>
    dsimp only at e1
    split at e1
    · rename_i hl
      unfold lim at hl
      exact ⟨n, congrArg (fun t => [t]) o1.i, by omega, by omega, k _ _ F1 H1 g1 (walks_rng 0 n.toNat) e1⟩
    · cases e1
  | _ => cases e1
theorem di_r2 (h : DE K CA W ta f1) (h' : DE K CA W tb f2) : DI K CA W (iRng2 (tCons ta (tCons tb tNil))) (iR2 f1 f2) := by
  intro H0 F H σ ρ z g R Rp hz he k
  refine h.go Rp hz he fun x v F1 H1 g1 o1 e1 => ?_
  refine h'.go (Rp.up g1) e1 (fun c e F' H' gr => he c e F' H' (g1.trans gr)) fun y w F2 H2 g2 o2 e2 => ?_
  split at e2
  · rename_i n m
    split at e2
    · rename_i hl
      unfold lim at hl
      exact ⟨n, m, by rw [o1.i, o2.i], ⟨by omega, by omega, by omega, by omega⟩, k _ _ F2 H2 (g1.trans g2) (walks_rng n (m - n).toNat) e2⟩
    · cases e2
  · cases e2

/-! ### targets -/
abbrev CT := PV → Sl → Option Sl
def tgN (i : Nat) : CT := fun x ρ => some (ρ.set i (.d x))
def tg2 (i j : Nat) : CT := fun x ρ => match x with
  | .t [a, b] => some ((ρ.set i (.d a)).set j (.d b))
  | _ => none
/-- σ' differs from σ at the places is alone -/
structure Chg (is : List Nat) (σ σ' : L2.St) : Prop where
  len : σ'.length = σ.length
  off : ∀ (k : Nat), k ∉ is → σ'[k]? = σ[k]?
theorem chg_set {i : Nat} {v : Option V} : Chg [i] σ (σ.set i v) := ⟨by simp, fun k hk => set_off fun e => hk (by simp [e])⟩
def DG (K : PySem.W.Frag) (g : TG) (tg : CT) (is : List Nat) : Prop := ∀ (CA : EvC) (H0 F H : Hp) (σ : L2.St) (ρ ρ' : Sl) (v : V) (x : PV) (Q : L2.St → Hp → Prop), Rep K CA H0 F H σ ρ → Dat K F v x → tg x ρ = some ρ' →
  (∀ σ', Rep K CA H0 F H σ' ρ' → Chg is σ σ' → Q σ' H) → g v σ H Q
theorem dg_name {i : Nat} : DG K (gName i) (tgN i) [i] := by
  intro CA H0 F H σ ρ ρ' v x Q R hd ht k
  cases ht
  exact k _ (R.setd hd) chg_set
theorem dg_two {i j : Nat} : DG K (gTup K 2 (gCons (gName i) (gCons (gName j) gNil))) (tg2 i j) [i, j] := by
  intro CA H0 F H σ ρ ρ' v x Q R hd ht k
  unfold tg2 at ht
  split at ht
  · cases ht
    cases hd with
    | t h1 h2 =>
      cases h2 with
      | cons d1 h3 =>
        cases h3 with
        | cons d2 h4 =>
          cases h4
          refine ⟨_, _, rfl, SqT.of (R.sub _ _ h1), rfl, _, _, rfl, _, _, rfl, rfl, ?_⟩
          refine k _ ((R.setd d1).setd d2) ⟨by simp, fun k hk => ?_⟩
          rw [set_off fun e => hk (by simp [e]), set_off fun e => hk (by simp [e])]
  · cases ht

/-! ### list comprehensions -/
def wipeS (ρ : Sl) : List Nat → Sl
  | [] => ρ
  | v :: vs => (wipeS ρ vs).set v .u
theorem wipeS_length (ρ : Sl) : ∀ vs : List Nat, (wipeS ρ vs).length = ρ.length
  | [] => rfl
  | v :: vs => by simp [wipeS, wipeS_length ρ vs]
theorem wipe_in {i : Nat} : ∀ {vs : List Nat}, i ∈ vs → i < σ.length → (wipe σ vs)[i]? = some none
  | v :: vs, h, hl => by
    by_cases e : v = i
    · subst e
      show ((wipe σ vs).set v none)[v]? = some none
      exact set_at (by rw [wipe_length]; exact hl)
    · show ((wipe σ vs).set v none)[i]? = some none
      rw [set_off e]
      exact wipe_in (by simpa [Ne.symm e] using h) hl
theorem wipeS_in {i : Nat} : ∀ {vs : List Nat}, i ∈ vs → i < ρ.length → (wipeS ρ vs)[i]? = some .u
  | v :: vs, h, hl => by
    by_cases e : v = i
    · subst e
      show ((wipeS ρ vs).set v .u)[v]? = some .u
      exact set_at (by rw [wipeS_length]; exact hl)
    · show ((wipeS ρ vs).set v .u)[i]? = some .u
      rw [set_off e]
      exact wipeS_in (by simpa [Ne.symm e] using h) hl
theorem wipeS_out {i : Nat} : ∀ {vs : List Nat}, i ∉ vs → (wipeS ρ vs)[i]? = ρ[i]?
  | [], _ => rfl
  | v :: vs, h => by
    show ((wipeS ρ vs).set v .u)[i]? = _
    rw [set_off (fun e => h (by simp [e]))]
    exact wipeS_out (fun q => h (by simp [q]))
theorem Rep.wipe (vs : List Nat) (R : Rep K CA H0 F H σ ρ) : Rep K CA H0 F H (wipe σ vs) (wipeS ρ vs) := by
  refine R.weak (by rw [wipe_length, wipeS_length]; exact R.len) fun i s e => ?_
  by_cases hi : i ∈ vs
  · by_cases hl : i < ρ.length
    · rw [wipeS_in hi hl] at e
      exact .inl (Option.some.inj e).symm
    · rw [List.getElem?_eq_none_iff.mpr (by rw [wipeS_length]; omega)] at e
      cases e
  · rw [wipeS_out hi] at e
    exact .inr ⟨e, wipe_out hi⟩
theorem wipe_chg {σ' : L2.St} {is vs : List Nat} (c : Chg is (wipe σ vs) σ') (h : ∀ i ∈ is, i ∈ vs) : L2.wipe σ' vs = L2.wipe σ vs := by
  have hlen : σ'.length = σ.length := by rw [c.len, wipe_length]
  apply List.ext_getElem?
  intro k
  by_cases hk : k ∈ vs
  · by_cases hl : k < σ.length
    · rw [wipe_in hk hl, wipe_in hk (by rw [hlen]; exact hl)]
    · rw [List.getElem?_eq_none_iff.mpr (by rw [wipe_length, hlen]; omega), List.getElem?_eq_none_iff.mpr (by rw [wipe_length]; omega)]
  · rw [wipe_out hk, c.off k (fun q => hk (h k q))]
/-- what the turns make; t none: no test -/
def lcGo (tg : CT) (t : CF) (f : CF) (ρ : Sl) : List PV → List PV → Option (List PV)
  | [], acc => some acc
  | x :: xs, acc => match tg x ρ with
    | none => none
    | some ρ' => match t ρ' with
      | some (.d (.b true)) => match f ρ' with
        | some (.d y) => lcGo tg t f ρ xs (acc ++ [y])
        | some (.f ys) => lcGo tg t f ρ xs (acc ++ [.l ys])
        | _ => none
      | some (.d (.b false)) => lcGo tg t f ρ xs acc
      | _ => none
def cYes : CF := fun _ => some (.d (.b true))
def cLc (vs : List Nat) (it : CI) (tg : CT) (t f : CF) : CF := fun ρ => it (fun xs => if xs.length ≤ big then (lcGo tg t f (wipeS ρ vs) xs []).map .f else none) ρ
def W0 : WX := fun _ _ _ _ => False
theorem dt_yes : DT K CA W tYes cYes := fun H0 F H σ ρ r Q R hz hT k he => by cases hz; exact k true rfl F H (Gr.refl R.sub)
theorem de_lc {wi : TI} {it : CI} {g : TG} {tg : CT} {is vs : List Nat} (hi : DI K CA W wi it) (hg : DG K g tg is) (ht : DT K CA W0 tt f1) (hf : DE K CA W0 te f2) (hv : ∀ i ∈ is, i ∈ vs) : DE K CA W (tLc wi g tt te vs) (cLc vs it tg f1 f2) := by
  intro H0 F H σ ρ z Q R hz hq he
  refine hi H0 F H σ ρ z _ _ R hz he fun xs J F1 H1 g1 wk e1 => ?_
  split at e1
  · rename_i hl
    cases hgo : lcGo tg f1 f2 (wipeS ρ vs) xs [] with
    | none => rw [hgo] at e1; cases e1
    | some ys =>
      rw [hgo] at e1
      cases e1
      intro D hD
      have R1 : Rep K CA H0 F1 H1 (wipe σ vs) (wipeS ρ vs) := (R.up g1).wipe vs
      have hFD : F1 D = none := g1.s.free hD
      -- the invariant: at turn i, what is made so far, the rest still to come
      let P : Nat → Hp → Prop := fun i H' => ∃ F' acc as, Gr F1 H1 F' H' ∧ F' D = none ∧ H' D = some (.lst as) ∧ Dats K F' as acc ∧ acc.length ≤ i ∧ lcGo tg f1 f2 (wipeS ρ vs) (xs.drop i) acc = some ys
      refine ⟨fun i m H' => P i H' ∧ i + m = xs.length, ⟨xs.length, ⟨F1, [], [], Gr.new g1.s hD, hFD, upd_same, .nil, Nat.le_refl _, hgo⟩, by omega⟩, ?_⟩
      rintro i m H' ⟨⟨F', acc, as, gr, hFD', hHD, hds, hle, hrest⟩, him⟩
      cases hx : xs[i]? with
      | none =>
        left
        refine ⟨(wk i F' H' gr.f gr.s).2 hx, ?_⟩
        have hdr : xs.drop i = [] := List.drop_eq_nil_of_le (List.getElem?_eq_none_iff.mp hx)
        rw [hdr] at hrest
        cases hrest
        exact hq _ F' H' (g1.trans gr) ⟨D, as, rfl, g1.h.free hD, hFD', hHD, hds⟩
      | some d =>
        right
        have hil : i < xs.length := (List.getElem?_eq_some_iff.mp hx).1
        obtain ⟨go, yl⟩ := (wk i F' H' gr.f gr.s).1 d hx
        refine ⟨go, P (i + 1), fun H2 hp => ⟨m - 1, by omega, hp, by omega⟩, fun x H2 hy => ?_⟩
        obtain ⟨F2, g2, hdx⟩ := yl x H2 hy
        have hdrop : xs.drop i = d :: xs.drop (i + 1) := by
          rw [List.drop_eq_getElem_cons hil]
          congr 1
          exact Option.some.inj ((List.getElem?_eq_getElem hil).symm.trans hx)
        rw [hdrop] at hrest
        unfold lcGo at hrest
        cases htg : tg d (wipeS ρ vs) with
        | none => rw [htg] at hrest; cases hrest
        | some ρ' =>
          rw [htg] at hrest
          have R2 : Rep K CA H0 F2 H2 (wipe σ vs) (wipeS ρ vs) := (R1.up gr).up g2
          refine hg CA H0 F2 H2 _ _ _ x d _ R2 hdx htg fun σ2 R3 c3 => ⟨wipe_chg c3 hv, ?_⟩
          have noD : ∀ {F3 H3 : Hp}, Gr F2 H2 F3 H3 → F3 D = none := fun {F3 H3} g3 => by
            cases e : F3 D with
            | none => rfl
            | some o =>
              rcases (g2.trans g3).o D o e with h | h
              · rw [hFD'] at h; cases h
              · rw [hHD] at h; cases h
          dsimp only at hrest
          cases ht1 : f1 ρ' with
          | none => rw [ht1] at hrest; cases hrest
          | some rt =>
            rw [ht1] at hrest
            have isb : (rt = .d (.b true)) ∨ (rt = .d (.b false)) := by
              split at hrest
              · rename_i e; exact .inl (Option.some.inj e)
              · rename_i e; exact .inr (Option.some.inj e)
              · cases hrest
            refine ht H0 F2 H2 σ2 ρ' rt _ R3 ht1 (by rcases isb with rfl | rfl <;> exact .inl ⟨_, rfl⟩) (fun b hb F3 H3 g3 => ?_) (fun c e => by rcases isb with rfl | rfl <;> cases e)
            rcases isb with rfl | rfl
            · cases hb
              refine iteT ?_
              dsimp only at hrest
              have fin : ∀ (y : PV) (v : V) (F4 H4 : Hp), Gr F3 H3 F4 H4 → Dat K F4 v y → lcGo tg f1 f2 (wipeS ρ vs) (xs.drop (i + 1)) (acc ++ [y]) = some ys →
                  ∃ acc', H4 D = some (.lst acc') ∧ acc'.length < sizeLine ∧ P (i + 1) (upd H4 D (.lst (acc' ++ [v]))) := fun y v F4 H4 g4 hd4 hr4 => by
                have g24 := g2.trans (g3.trans g4)
                have hF4 : F4 D = none := noD (g3.trans g4)
                have grA := gr.trans g24
                refine ⟨as, g24.h _ _ hHD, ?_, F4, acc ++ [y], as ++ [v], ⟨grA.f, ?_, ?_, grA.o⟩, hF4, upd_same, (hds.mono g24.f).snoc hd4, by simp; omega, hr4⟩
                · rw [hds.length, big_eq]; omega
                · intro a o e
                  rw [upd_ne (ne_of_none e hD)]
                  exact grA.h a o e
                · intro a o e
                  rw [upd_ne (ne_of_none e hF4)]
                  exact grA.s a o e
              cases hf2 : f2 ρ' with
              | none => rw [hf2] at hrest; cases hrest
              | some r =>
                rw [hf2] at hrest
                refine hf H0 F3 H3 σ2 ρ' r _ (R3.up g3) hf2 (fun v F4 H4 g4 ok => ?_) (fun c e => by subst e; cases hrest)
                cases r with
                | e c => exact ok.elim
                | d y => exact fin y v F4 H4 g4 ok hrest
                | m ys => cases hrest
                | f ys =>
                  obtain ⟨F5, g5, hd5⟩ := ok.frz g4 (.inr ⟨ys, rfl, rfl⟩)
                  exact fin _ v F5 H4 g5 hd5 hrest
            · cases hb
              refine iteF ?_
              have g23 := g2.trans g3
              exact ⟨F3, acc, as, gr.trans g23, noD g3, g23.h _ _ hHD, hds.mono g23.f, by omega, hrest⟩
  · cases e1
end
end DD
/-! statements, calls of defs, defs -/
namespace DD
open PySem PySem.Spec L2

inductive Fl where
  | nx (r : Sl) | rt (r : ER) | bk (r : Sl) | ct (r : Sl) | ex (c : Err)
abbrev CS := Sl → Option Fl
structure Bs (F0 H0 F H : Hp) : Prop where
  f : Same F0 F
  h : Same H0 H
  o : ∀ a o, F a = some o → F0 a = some o ∨ H0 a = none
theorem Bs.up {F0 H0 F H F' H' : Hp} (b : Bs F0 H0 F H) (g : Gr F H F' H') : Bs F0 H0 F' H' :=
  ⟨b.f.trans g.f, b.h.trans g.h, fun a o e => by
    rcases g.o a o e with h | h
    · exact b.o a o h
    · exact .inr (b.h.free h)⟩
theorem Bs.gr {F0 H0 F H : Hp} (b : Bs F0 H0 F H) (s : Same F H) : Gr F0 H0 F H := ⟨b.f, b.h, s, b.o⟩
theorem Bs.refl {F0 H0 : Hp} : Bs F0 H0 F0 H0 := ⟨Same.refl _, Same.refl _, fun _ _ e => .inl e⟩
theorem Bs.trans {F0 H0 F1 H1 F2 H2 : Hp} (a : Bs F0 H0 F1 H1) (b : Bs F1 H0 F2 H2) : Bs F0 H0 F2 H2 := ⟨a.f.trans b.f, b.h, fun c o e => by
  rcases b.o c o e with h | h
  · exact a.o c o h
  · exact .inr h⟩
def At (K : PySem.W.Frag) (CA : EvC) (F0 H0 : Hp) (ρ : Sl) (σ : L2.St) (H : Hp) : Prop := ∃ F, Bs F0 H0 F H ∧ Rep K CA H0 F H σ ρ
section
variable (K : PySem.W.Frag) (CA : EvC) (W : WX)
def Post (F0 H0 : Hp) (D : Ends) : Fl → Prop
  | .nx ρ => ∀ σ H, At K CA F0 H0 ρ σ H → D.nx σ H
  | .bk ρ => ∀ σ H, At K CA F0 H0 ρ σ H → D.bk σ H
  | .ct ρ => ∀ σ H, At K CA F0 H0 ρ σ H → D.ct σ H
  | .rt r => ∀ v F H, Gr F0 H0 F H → VOk K H0 F H v r → D.rt v H
  | .ex c => ∀ σ H, Same H0 H → W (.ref (CA c)) none σ H
def DS (t : TS) (f : CS) : Prop := ∀ (F0 H0 : Hp) (σ : L2.St) (H : Hp) (ρ : Sl) (o : Fl) (D : Ends), At K CA F0 H0 ρ σ H → f ρ = some o → Post K CA W F0 H0 D o → t D σ H
end
section
variable {K : PySem.W.Frag} {CA : EvC} {W : WX} {te ta tb tc : TE} {tt tu : TT} {f f1 f2 f3 : CF} {F0 H0 F H : Hp} {σ : L2.St} {ρ : Sl} {t u v : TS} {s s1 s2 : CS} {D : Ends}

/-! ### small statements -/
def cNext : CS := fun ρ => some (.nx ρ)
def cSeq (f g : CS) : CS := fun ρ => match f ρ with
  | some (.nx ρ') => g ρ'
  | o => o
theorem ds_next : DS K CA W tNext cNext := fun F0 H0 σ H ρ o D A e P => by cases e; exact P σ H A
theorem ds_seq (h1 : DS K CA W t s1) (h2 : DS K CA W u s2) : DS K CA W (tSeq t u) (cSeq s1 s2) := by
  intro F0 H0 σ H ρ o D A e P
  unfold cSeq at e
  split at e
  · rename_i ρ' h
    exact h1 F0 H0 σ H ρ _ _ A h fun σ' H' A' => h2 F0 H0 σ' H' ρ' o D A' e P
  · rename_i hn
    refine h1 F0 H0 σ H ρ o _ A e ?_
    cases o with
    | nx ρ' => exact absurd e (hn ρ')
    | rt r => exact P
    | bk ρ' => exact P
    | ct ρ' => exact P
    | ex c => exact P
def cNever : CS := fun _ => none
theorem ds_never : DS K CA W tNever cNever := fun F0 H0 σ H ρ o D A e P => by cases e
def cBrk : CS := fun ρ => some (.bk ρ)
def cCnt : CS := fun ρ => some (.ct ρ)
theorem ds_brk : DS K CA W tBreak cBrk := fun F0 H0 σ H ρ o D A e P => by cases e; exact P σ H A
theorem ds_cnt : DS K CA W tCont cCnt := fun F0 H0 σ H ρ o D A e P => by cases e; exact P σ H A
theorem DE.at {Q : VK} {r : ER} (h : DE K CA W te f) (A : At K CA F0 H0 ρ σ H) (hz : f ρ = some r)
    (k : ∀ F, Bs F0 H0 F H → Rep K CA H0 F H σ ρ → ∀ v F' H', Gr F H F' H' → VOk K H F' H' v r → Q v H') (he : ∀ c, r = .e c → ∀ H', Same H0 H' → W (.ref (CA c)) none σ H') : te σ H Q := by
  obtain ⟨F, b, R⟩ := A
  exact h H0 F H σ ρ r Q R hz (fun v F' H' g ok => k F b R v F' H' g ok) fun c e F' H' g => he c e H' (b.h.trans g.h)
def lS (k : PV → Option Fl) : Option ER → Option Fl
  | some (.d x) => k x
  | some (.f xs) => k (.l xs)
  | some (.e c) => some (.ex c)
  | _ => none
theorem DE.atS {Q : VK} {o : Fl} {k : PV → Option Fl} (h : DE K CA W te f) (A : At K CA F0 H0 ρ σ H) (hz : lS k (f ρ) = some o)
    (q : ∀ F, Bs F0 H0 F H → Rep K CA H0 F H σ ρ → ∀ v x F' H', Gr F H F' H' → Dat K F' v x → k x = some o → Q v H') (he : ∀ c, o = .ex c → ∀ H', Same H0 H' → W (.ref (CA c)) none σ H') : te σ H Q := by
  cases h1 : f ρ with
  | none => rw [h1] at hz; cases hz
  | some r =>
    rw [h1] at hz
    refine h.at A h1 (fun F b R v F' H' g ok => ?_) fun c e H' s => ?_
    · cases r with
      | e c => exact ok.elim
      | d x => exact q F b R v x F' H' g ok hz
      | m xs => cases hz
      | f xs =>
        obtain ⟨F2, g2, hd⟩ := ok.frz g (.inr ⟨xs, rfl, rfl⟩)
        exact q F b R v (.l xs) F2 H' g2 hd hz
    · subst e
      exact he c (Option.some.inj hz).symm H' s
def cAsg (i : Nat) (f : CF) : CS := fun ρ => lS (fun x => some (.nx (ρ.set i (.d x)))) (f ρ)
def cAsgM (i : Nat) (f : CF) : CS := fun ρ => match f ρ with
  | some (.f xs) => some (.nx (ρ.set i (.m xs)))
  | some (.e c) => some (.ex c)
  | _ => none
def cDrop (f : CF) : CS := fun ρ => match f ρ with
  | some (.e c) => some (.ex c)
  | some _ => some (.nx ρ)
  | none => none
theorem post_ex {c : Err} {σ : L2.St} (o : Fl) (e : o = .ex c) (P : Post K CA W F0 H0 D o) : ∀ H', Same H0 H' → W (.ref (CA c)) none σ H' := by subst e; exact P σ
theorem ds_asg {i : Nat} (h : DE K CA W te f) : DS K CA W (tAsg te (gName i)) (cAsg i f) := by
  intro F0 H0 σ H ρ o D A e P
  refine h.atS A e (fun F b R v x F' H' g hd e2 => ?_) (fun c e => post_ex o e P)
  cases e2
  exact P _ _ ⟨F', b.up g, (R.up g).setd hd⟩
theorem ds_asgM {i : Nat} (h : DE K CA W te f) : DS K CA W (tAsg te (gName i)) (cAsgM i f) := by
  intro F0 H0 σ H ρ o D A e P
  unfold cAsgM at e
  split at e
  · rename_i xs h1
    cases e
    refine h.at A h1 (fun F b R v F' H' g ok => ?_) (fun c e => by cases e)
    obtain ⟨p, vs, rfl, h0, h2, h3, h4⟩ := ok
    exact P _ _ ⟨F', b.up g, (R.up g).setm h2 (b.h.free h0) h3 h4 ⟨F, R⟩ h0 g.h⟩
  · rename_i c h1
    cases e
    exact h.at A h1 (fun F b R v F' H' g ok => ok.elim) (fun c' e H' s => by cases e; exact P σ H' s)
  · cases e
theorem ds_drop (h : DE K CA W te f) : DS K CA W (tDrop te) (cDrop f) := by
  intro F0 H0 σ H ρ o D A e P
  unfold cDrop at e
  split at e
  · rename_i c h1
    cases e
    exact h.at A h1 (fun F b R v F' H' g ok => ok.elim) (fun c' e H' s => by cases e; exact P σ H' s)
  · rename_i r hn h1
    cases e
    refine h.at A h1 (fun F b R v F' H' g ok => P _ _ ⟨F', b.up g, R.up g⟩) (fun c e => absurd e (by rintro rfl; exact hn c rfl))
  · cases e
def cRet (f : CF) : CS := fun ρ => match f ρ with
  | some (.d x) => some (.rt (.d x))
  | some (.f xs) => some (.rt (.f xs))
  | some (.e c) => some (.ex c)
  | _ => none
/-- return name -/
def cRetV (i : Nat) : CS := fun ρ => match ρ[i]? with
  | some (.d x) => some (.rt (.d x))
  | some (.m xs) => some (.rt (.f xs))
  | _ => none
def cRetN : CS := fun _ => some (.rt (.d .n))
theorem ds_retN : DS K CA W tRetN cRetN := fun F0 H0 σ H ρ o D A e P => by
  cases e
  obtain ⟨F, b, R⟩ := A
  exact P _ F H (b.gr R.sub) Dat.n
theorem ds_ret (h : DE K CA W te f) : DS K CA W (tRet te) (cRet f) := by
  intro F0 H0 σ H ρ o D A e P
  unfold cRet at e
  split at e
  · rename_i x h1
    cases e
    refine h.at A h1 (fun F b R v F' H' g ok => ?_) (fun c e => by cases e)
    exact P v F' H' ((b.up g).gr g.s) ok
  · rename_i xs h1
    cases e
    refine h.at A h1 (fun F b R v F' H' g ok => ?_) (fun c e => by cases e)
    exact P v F' H' ((b.up g).gr g.s) (ok.back b.h)
  · rename_i c h1
    cases e
    exact h.at A h1 (fun F b R v F' H' g ok => ok.elim) (fun c' e H' s => by cases e; exact P σ H' s)
  · cases e
theorem ds_retV {i : Nat} : DS K CA W (tRet (tVar i)) (cRetV i) := by
  intro F0 H0 σ H ρ o D A e P
  unfold cRetV at e
  obtain ⟨F, b, R⟩ := A
  split at e
  · rename_i x hi
    cases e
    obtain ⟨v, h1, h2⟩ := R.dat i x hi
    exact ⟨v, h1, P v F H (b.gr R.sub) h2⟩
  · rename_i xs hi
    cases e
    obtain ⟨p, vs, e1, e2, e3, e4, e5⟩ := R.mt hi
    exact ⟨_, e1, P _ F H (b.gr R.sub) ⟨p, vs, rfl, e3, e2, e4, e5⟩⟩
  · cases e
def cIf (c : CF) (f g : CS) : CS := fun ρ => match c ρ with
  | some (.d (.b true)) => f ρ
  | some (.d (.b false)) => g ρ
  | some (.e c) => some (.ex c)
  | _ => none
theorem ds_if (hc : DT K CA W tt f) (h1 : DS K CA W t s1) (h2 : DS K CA W u s2) : DS K CA W (tIfS tt t u) (cIf f s1 s2) := by
  intro F0 H0 σ H ρ o D A e P
  obtain ⟨F, b, R⟩ := A
  unfold cIf at e
  split at e
  · rename_i hb
    refine hc H0 F H σ ρ _ _ R hb (.inl ⟨_, rfl⟩) (fun k q F' H' g => ?_) (fun c e => by cases e)
    cases q
    exact iteT (h1 F0 H0 σ H' ρ o D ⟨F', b.up g, R.up g⟩ e P)
  · rename_i hb
    refine hc H0 F H σ ρ _ _ R hb (.inl ⟨_, rfl⟩) (fun k q F' H' g => ?_) (fun c e => by cases e)
    cases q
    exact iteF (h2 F0 H0 σ H' ρ o D ⟨F', b.up g, R.up g⟩ e P)
  · rename_i c hc'
    cases e
    refine hc H0 F H σ ρ _ _ R hc' (.inr ⟨_, rfl⟩) (fun k q => by cases q) (fun c e F' H' g => ?_)
    cases e
    exact P σ H' (b.h.trans g.h)
  · cases e

/-! ### a slot's list: append, extend, insert, reverse, an item stored -/
theorem At.mut {i : Nat} {xs : List PV} (A : At K CA F0 H0 ρ σ H) (hi : ρ[i]? = some (.m xs)) : ∃ F p vs, Bs F0 H0 F H ∧ Rep K CA H0 F H σ ρ ∧ σ[i]? = some (some (.ref p)) ∧ H0 p = none ∧ H p = some (.lst vs) ∧ Dats K F vs xs := by
  obtain ⟨F, b, R⟩ := A
  obtain ⟨p, vs, e1, e2, e3, e4, e5⟩ := R.mt hi
  exact ⟨F, p, vs, b, R, e1, e3, e4, e5⟩
theorem Bs.wr {p : Addr} {o : HO} (b : Bs F0 H0 F H) (h : H0 p = none) : Bs F0 H0 F (upd H p o) := ⟨b.f, fun a x e => by rw [upd_ne (ne_of_none e h)]; exact b.h a x e, b.o⟩
def cApp (i : Nat) (f : CF) : CS := fun ρ => match ρ[i]? with
  | some (.m xs) => lS (fun y => if xs.length < big then some (.nx (ρ.set i (.m (xs ++ [y])))) else none) (f ρ)
  | _ => none
theorem ds_app {i : Nat} (h : DE K CA W te f) : DS K CA W (tDrop (tBM K "list" rAppend (tVar i) (tCons te tNil))) (cApp i f) := by
  intro F0 H0 σ H ρ o D A e P
  unfold cApp at e
  split at e
  · rename_i xs hi
    obtain ⟨F, p, vs, b, R, e1, e2, e3, e4⟩ := A.mut hi
    refine ⟨.ref p, e1, .inl ⟨rfl, vs, SqL.of e3⟩, ?_⟩
    refine h.atS ⟨F, b, R⟩ e (fun F1 b1 R1 v y F' H' g hd e2' => ?_) (fun c e => post_ex o e P)
    split at e2'
    · rename_i hl
      cases e2'
      obtain ⟨q, ws, f1, f2, f3, f4, f5⟩ := (R1.up g).mt hi
      rw [e1] at f1
      cases f1
      refine ⟨p, ws, v, rfl, rfl, f4, by rw [f5.length, big_eq]; exact hl, ?_⟩
      exact P _ _ ⟨F', (b1.up g).wr f3, (R1.up g).wr hi e1 (f5.snoc hd)⟩
    · cases e2'
  · cases e
def rIns : V → List V → Hp → VK → Prop := fun x vs H Q => ∃ (l : Addr) (xs : List V) (i : Int) (y : V), x = .ref l ∧ vs = [.int i, y] ∧ H l = some (.lst xs) ∧ xs.length < sizeLine ∧ 0 ≤ i ∧ i < 2 ^ 63 ∧
    Q .non (upd H l (.lst (xs.take i.toNat ++ [y] ++ xs.drop i.toNat)))
def cIns (i : Nat) (fk f : CF) : CS := fun ρ => match ρ[i]? with
  | some (.m xs) => (match fk ρ with
    | some (.d (.i k)) => lS (fun y => if xs.length < big ∧ 0 ≤ k ∧ k.natAbs < lim then some (.nx (ρ.set i (.m (xs.take k.toNat ++ [y] ++ xs.drop k.toNat)))) else none) (f ρ)
    | some (.e c) => some (.ex c)
    | _ => none)
  | _ => none
theorem ds_ins {i : Nat} (hk : DE K CA W ta f1) (h : DE K CA W te f) : DS K CA W (tDrop (tBM K "list" rIns (tVar i) (tCons ta (tCons te tNil)))) (cIns i f1 f) := by
  intro F0 H0 σ H ρ o D A e P
  unfold cIns at e
  split at e
  · rename_i xs hi
    obtain ⟨F, p, vs, b, R, e1, e2, e3, e4⟩ := A.mut hi
    refine ⟨.ref p, e1, .inl ⟨rfl, vs, SqL.of e3⟩, ?_⟩
    split at e
    · rename_i k hk1
      refine hk.at ⟨F, b, R⟩ hk1 (fun F1 b1 R1 w F2 H2 g2 ok2 => ?_) (fun c e => by cases e)
      refine h.atS ⟨F2, b1.up g2, R1.up g2⟩ e (fun F1 b1 R1 v y F' H' g hd e2' => ?_) (fun c e => post_ex o e P)
      split at e2'
      · rename_i hl
        cases e2'
        obtain ⟨q, ws, f1, f2, f3, f4, f5⟩ := (R1.up g).mt hi
        rw [e1] at f1
        cases f1
        unfold lim at hl
        refine ⟨p, ws, k, v, rfl, by rw [ok2.va.i], f4, by rw [f5.length, big_eq]; exact hl.1, hl.2.1, by omega, ?_⟩
        refine P _ _ ⟨F', (b1.up g).wr f3, (R1.up g).wr hi e1 (((f5.take _).snoc hd).append (f5.drop _))⟩
      · cases e2'
    · rename_i c hk1
      cases e
      exact hk.at ⟨F, b, R⟩ hk1 (fun F1 b1 R1 w F2 H2 g2 ok2 => ok2.elim) (fun c' e H' s => by cases e; exact P σ H' s)
    · cases e
  · cases e
def cExt (i : Nat) (f : CF) : CS := fun ρ => match ρ[i]? with
  | some (.m xs) => lS (fun y => match y with | .l ys => if xs.length + ys.length ≤ big then some (.nx (ρ.set i (.m (xs ++ ys)))) else none | _ => none) (f ρ)
  | _ => none
theorem ds_ext {i : Nat} (h : DE K CA W te f) : DS K CA W (tDrop (tBM K "list" rExtend (tVar i) (tCons te tNil))) (cExt i f) := by
  intro F0 H0 σ H ρ o D A e P
  unfold cExt at e
  split at e
  · rename_i xs hi
    obtain ⟨F, p, vs, b, R, e1, e2, e3, e4⟩ := A.mut hi
    refine ⟨.ref p, e1, .inl ⟨rfl, vs, SqL.of e3⟩, ?_⟩
    refine h.atS ⟨F, b, R⟩ e (fun F1 b1 R1 v y F' H' g hd e2' => ?_) (fun c e => post_ex o e P)
    split at e2'
    · split at e2'
      · rename_i ys hl
        cases e2'
        obtain ⟨q, ws, f1, f2, f3, f4, f5⟩ := (R1.up g).mt hi
        rw [e1] at f1
        cases f1
        cases hd with
        | l d1 d2 =>
          refine ⟨p, _, ws, _, rfl, rfl, f4, g.s _ _ d1, by rw [f5.length, d2.length, big_eq]; exact hl, ?_⟩
          exact P _ _ ⟨F', (b1.up g).wr f3, (R1.up g).wr hi e1 (f5.append d2)⟩
      · cases e2'
    · cases e2'
  · cases e
def cRev (i : Nat) : CS := fun ρ => match ρ[i]? with
  | some (.m xs) => some (.nx (ρ.set i (.m xs.reverse)))
  | _ => none
theorem ds_rev {i : Nat} : DS K CA W (tDrop (tBM0 K "list" rReverse (tVar i))) (cRev i) := by
  intro F0 H0 σ H ρ o D A e P
  unfold cRev at e
  split at e
  · rename_i xs hi
    cases e
    obtain ⟨F, p, vs, b, R, e1, e2, e3, e4⟩ := A.mut hi
    exact ⟨.ref p, e1, .inl ⟨rfl, vs, SqL.of e3⟩, p, vs, rfl, rfl, e3, P _ _ ⟨F, b.wr e2, R.wr hi e1 e4.reverse⟩⟩
  · cases e
/-- a slot's list is data from here on -/
def cFrz (i : Nat) (s : CS) : CS := fun ρ => match ρ[i]? with
  | some (.m xs) => s (ρ.set i (.d (.l xs)))
  | some (.d _) => s ρ
  | _ => none
theorem ds_frz {i : Nat} (h : DS K CA W t s) : DS K CA W t (cFrz i s) := by
  intro F0 H0 σ H ρ o D A e P
  unfold cFrz at e
  split at e
  · rename_i xs hi
    obtain ⟨F, b, R⟩ := A
    obtain ⟨F', s1, s2, R'⟩ := R.frz hi
    refine h F0 H0 σ H _ o D ⟨F', ⟨b.f.trans s1, b.h, fun a x e => ?_⟩, R'⟩ e P
    rcases s2 a x e with q | q
    · exact b.o a x q
    · exact .inr q
  · exact h F0 H0 σ H ρ o D A e P
  · cases e

/-! ### loops -/
def forGo (tg : CT) (b : CS) : List PV → Sl → Option Fl
  | [], ρ => some (.nx ρ)
  | x :: xs, ρ => match tg x ρ with
    | none => none
    | some ρ' => match b ρ' with
      | some (.nx ρ'') => forGo tg b xs ρ''
      | some (.ct ρ'') => forGo tg b xs ρ''
      | some (.bk ρ'') => some (.nx ρ'')
      | o => o
def cFor (it : CI) (tg : CT) (b : CS) : CS := fun ρ => match it (fun xs => some (.f xs)) ρ with
  | some (.f xs) => forGo tg b xs ρ
  | some (.e c) => some (.ex c)
  | _ => none
theorem At.base {F1 H1 : Hp} (b : Bs F0 H0 F1 H1) (A : At K CA F1 H0 ρ σ H) : At K CA F0 H0 ρ σ H := by
  obtain ⟨F, b2, R⟩ := A
  exact ⟨F, b.trans b2, R⟩
theorem Post.base {F1 H1 : Hp} {o : Fl} (b : Bs F0 H0 F1 H1) (P : Post K CA W F0 H0 D o) : Post K CA W F1 H0 D o := by
  cases o with
  | nx ρ => exact fun σ H A => P σ H (A.base b)
  | bk ρ => exact fun σ H A => P σ H (A.base b)
  | ct ρ => exact fun σ H A => P σ H (A.base b)
  | rt r => exact fun v F H g ok => P v F H ((b.trans ⟨g.f, g.h, g.o⟩).gr g.s) ok
  | ex c => exact P
theorem ds_for {wi : TI} {it : CI} {g : TG} {tg : CT} {is : List Nat} (hi : DI K CA W wi it) (hg : DG K g tg is) (hb : DS K CA W t s) : DS K CA W (tFor wi g t) (cFor it tg s) := by
  intro F0 H0 σ H ρ o D A e P
  obtain ⟨F, b, R⟩ := A
  unfold cFor at e
  split at e
  · rename_i xs h1
    refine hi H0 F H σ ρ _ _ _ R h1 (fun c e => by cases e) fun xs' J F1 H1 g1 wk e1 => ?_
    cases e1
    have b1 : Bs F0 H0 F1 H1 := b.up g1
    let P1 : Nat → L2.St → Hp → Prop := fun i σ' H' => ∃ ρ', At K CA F1 H0 ρ' σ' H' ∧ (∃ F2, Same F1 F2 ∧ Bs F1 H0 F2 H' ∧ Rep K CA H0 F2 H' σ' ρ') ∧ forGo tg s (xs.drop i) ρ' = some o
    refine ⟨fun i m σ' H' => P1 i σ' H' ∧ i + m = max xs.length i, ⟨xs.length, ⟨ρ, ⟨F1, ⟨Same.refl _, b1.h, fun _ _ e => .inl e⟩, R.up g1⟩, ⟨F1, Same.refl _, ⟨Same.refl _, b1.h, fun _ _ e => .inl e⟩, R.up g1⟩, e⟩, by omega⟩, ?_⟩
    rintro i m σ' H' ⟨⟨ρ', _, ⟨F2, s2, b2, R2⟩, hrest⟩, him⟩
    cases hx : xs[i]? with
    | none =>
      left
      refine ⟨(wk i F2 H' s2 R2.sub).2 hx, ?_⟩
      have hdr : xs.drop i = [] := List.drop_eq_nil_of_le (List.getElem?_eq_none_iff.mp hx)
      rw [hdr] at hrest
      cases hrest
      exact P σ' H' ⟨F2, b1.trans b2, R2⟩
    | some d =>
      right
      have hil : i < xs.length := (List.getElem?_eq_some_iff.mp hx).1
      obtain ⟨go, yl⟩ := (wk i F2 H' s2 R2.sub).1 d hx
      refine ⟨go, P1 (i + 1), fun σ2 H2 hp => ⟨m - 1, by omega, hp, by omega⟩, fun x H2 hy => ?_⟩
      obtain ⟨F3, g3, hdx⟩ := yl x H2 hy
      have hdrop : xs.drop i = d :: xs.drop (i + 1) := by
        rw [List.drop_eq_getElem_cons hil]
        congr 1
        exact Option.some.inj ((List.getElem?_eq_getElem hil).symm.trans hx)
      rw [hdrop] at hrest
      unfold forGo at hrest
      cases htg : tg d ρ' with
      | none => rw [htg] at hrest; cases hrest
      | some ρ2 =>
        rw [htg] at hrest
        dsimp only at hrest
        refine hg CA H0 F3 H2 σ' ρ' ρ2 x d _ (R2.up g3) hdx htg fun σ2 R3 _ => ?_
        have A3 : At K CA F1 H0 ρ2 σ2 H2 := ⟨F3, b2.up g3, R3⟩
        have nxt : ∀ ρ3, forGo tg s (xs.drop (i + 1)) ρ3 = some o → ∀ σ4 H4, At K CA F1 H0 ρ3 σ4 H4 → P1 (i + 1) σ4 H4 := fun ρ3 hr σ4 H4 A4 => by
          obtain ⟨F4, b4, R4⟩ := id A4
          exact ⟨ρ3, A4, ⟨F4, b4.f, b4, R4⟩, hr⟩
        split at hrest
        · rename_i ρ3 hb3
          exact hb F1 H0 σ2 H2 ρ2 _ _ A3 hb3 (nxt ρ3 hrest)
        · rename_i ρ3 hb3
          exact hb F1 H0 σ2 H2 ρ2 _ _ A3 hb3 (nxt ρ3 hrest)
        · rename_i ρ3 hb3
          cases hrest
          exact hb F1 H0 σ2 H2 ρ2 _ _ A3 hb3 (fun σ4 H4 A4 => P σ4 H4 (A4.base b1))
        · rename_i n1 n2 n3
          refine hb F1 H0 σ2 H2 ρ2 o _ A3 hrest ?_
          cases o with
          | nx ρ3 => exact absurd hrest (n1 ρ3)
          | ct ρ3 => exact absurd hrest (n2 ρ3)
          | bk ρ3 => exact absurd hrest (n3 ρ3)
          | rt r => exact Post.base b1 P
          | ex c => exact P
  · rename_i c h1
    cases e
    refine hi H0 F H σ ρ _ _ _ R h1 (fun c' e F' H' g => ?_) fun xs' J F1 H1 g1 wk e1 => by cases e1
    cases e
    exact P σ H' (b.h.trans g.h)
  · cases e
def whGo (c : CF) (b : CS) : Nat → Sl → Option Fl
  | 0, _ => none
  | n + 1, ρ => match c ρ with
    | some (.d (.b false)) => some (.nx ρ)
    | some (.d (.b true)) => (match b ρ with
      | some (.nx ρ') => whGo c b n ρ'
      | some (.ct ρ') => whGo c b n ρ'
      | some (.bk ρ') => some (.nx ρ')
      | o => o)
    | some (.e c) => some (.ex c)
    | _ => none
def cWh (n : Nat) (c : CF) (b : CS) : CS := fun ρ => whGo c b n ρ
theorem ds_wh {n : Nat} (hc : DT K CA W tt f) (hb : DS K CA W t s) : DS K CA W (tWhile tt t) (cWh n f s) := by
  intro F0 H0 σ H ρ o D A e P
  refine ⟨fun m σ' H' => ∃ ρ', At K CA F0 H0 ρ' σ' H' ∧ whGo f s m ρ' = some o, ⟨n, ρ, A, e⟩, ?_⟩
  rintro m σ' H' ⟨ρ', A', hr⟩
  cases m with
  | zero => cases hr
  | succ m =>
    unfold whGo at hr
    obtain ⟨F, b, R⟩ := A'
    split at hr
    · rename_i hf
      cases hr
      refine hc H0 F H' σ' ρ' _ _ R hf (.inl ⟨_, rfl⟩) (fun k q F' H2 g => ?_) (fun c e => by cases e)
      cases q
      exact L2.iteF (P σ' H2 ⟨F', b.up g, R.up g⟩)
    · rename_i hf
      refine hc H0 F H' σ' ρ' _ _ R hf (.inl ⟨_, rfl⟩) (fun k q F' H2 g => ?_) (fun c e => by cases e)
      cases q
      refine L2.iteT ⟨fun σ4 H4 => ∃ ρ4, At K CA F0 H0 ρ4 σ4 H4 ∧ whGo f s m ρ4 = some o, fun σ4 H4 h => ⟨m, Nat.lt_succ_self m, h⟩, ?_⟩
      have A3 : At K CA F0 H0 ρ' σ' H2 := ⟨F', b.up g, R.up g⟩
      split at hr
      · rename_i ρ3 hb3
        exact hb F0 H0 σ' H2 ρ' _ _ A3 hb3 fun σ4 H4 A4 => ⟨ρ3, A4, hr⟩
      · rename_i ρ3 hb3
        exact hb F0 H0 σ' H2 ρ' _ _ A3 hb3 fun σ4 H4 A4 => ⟨ρ3, A4, hr⟩
      · rename_i ρ3 hb3
        cases hr
        exact hb F0 H0 σ' H2 ρ' _ _ A3 hb3 fun σ4 H4 A4 => P σ4 H4 A4
      · rename_i n1 n2 n3
        refine hb F0 H0 σ' H2 ρ' o _ A3 hr ?_
        cases o with
        | nx ρ3 => exact absurd hr (n1 ρ3)
        | ct ρ3 => exact absurd hr (n2 ρ3)
        | bk ρ3 => exact absurd hr (n3 ρ3)
        | rt r => exact P
        | ex c => exact P
    · rename_i c hf
      cases hr
      refine hc H0 F H' σ' ρ' _ _ R hf (.inr ⟨_, rfl⟩) (fun k q => by cases q) (fun c e F' H2 g => ?_)
      cases e
      exact P σ' H2 (b.h.trans g.h)
    · cases hr

/-! ### raise; calls; defs -/
def cRaise (c : Err) : CS := fun _ => some (.ex c)
theorem ds_raise {c : Err} : DS K CA W (fun _ σ H => (fun (_ : L2.St) (H : Hp) (Q : XK) => Q (.ref (CA c)) none H) σ H fun cls d H' => W cls d σ H') (cRaise c) := by
  intro F0 H0 σ H ρ o D A e P
  cases e
  obtain ⟨F, b, R⟩ := A
  exact P σ H b.h
/-- a def's promise: what it gives for data -/
def spD (K : PySem.W.Frag) (CA : EvC) (φ : List PV → Option ER) : Sp := fun vs H Q E => ∃ F ds r, Same F H ∧ Dats K F vs ds ∧ φ ds = some r ∧ (∀ v F' H', Gr F H F' H' → VOk K H F' H' v r → Q v H') ∧
  (∀ c, r = .e c → ∀ H', Same H H' → E (.ref (CA c)) none H')
def cCall (φ : List PV → Option ER) (fs : List CF) : CF := cA φ fs
theorem de_call {φ : List PV → Option ER} {tas : TA} {fs : List CF} (h : DA K CA W tas fs) : DE K CA W (tCallS (spD K CA φ) (WE W) tas) (cCall φ fs) := by
  intro H0 F H σ ρ z Q R hz hq he
  refine h H0 F H σ ρ z _ _ R hz he fun xs vs F1 H1 g1 o1 e1 => ?_
  exact ⟨F1, xs, z, g1.s, o1, e1, fun v F' H' g ok => hq v F' H' (g1.trans g) (ok.back g1.h), fun c e H' s => he c e F1 H' ⟨g1.f, g1.h.trans s, g1.s.trans s, g1.o⟩⟩
def ini (n : Nat) (ds : List PV) : Sl := ds.map .d ++ List.replicate (n - ds.length) .u
/-- what a def gives, by its body: k parameters, n names -/
def fnD (k n : Nat) (s : CS) (ds : List PV) : Option ER := if ds.length = k then (match s (ini n ds) with
  | some (.rt r) => some r
  | some (.nx _) => some (.d .n)
  | some (.ex c) => some (.e c)
  | _ => none) else none
theorem ini_get : ∀ {ds : List PV} {n i : Nat} {x : Sl1}, (ini n ds)[i]? = some x → (∃ y, ds[i]? = some y ∧ x = .d y) ∨ x = .u := by
  intro ds n i x h
  unfold ini at h
  by_cases hi : i < ds.length
  · rw [List.getElem?_append_left (by simpa using hi), List.getElem?_map, List.getElem?_eq_getElem hi] at h
    exact .inl ⟨_, List.getElem?_eq_getElem hi, (Option.some.inj h).symm⟩
  · rw [List.getElem?_append_right (by simpa using hi), List.getElem?_replicate] at h
    split at h
    · exact .inr (Option.some.inj h).symm
    · cases h
theorem rep_ini {N : List Str} {vs : List V} {ds : List PV} (s : Same F H) (h : Dats K F vs ds) : Rep K CA H F H (L2.start N vs) (ini N.length ds) where
  len := by unfold L2.start ini; simp [h.length]
  sub := s
  dat := fun i x e => by
    rcases ini_get e with ⟨y, h1, h2⟩ | h2
    · cases h2
      obtain ⟨v, h3, h4⟩ := h.get h1
      refine ⟨v, ?_, h4⟩
      unfold L2.start
      have hi : i < vs.length := (List.getElem?_eq_some_iff.mp h3).1
      rw [List.getElem?_append_left (by simpa using hi), List.getElem?_map, h3]
      rfl
    · cases h2
  exn := fun i x e => by
    rcases ini_get e with ⟨y, h1, h2⟩ | h2 <;> cases h2
  ow := by
    refine ⟨fun _ => [], fun i a h => (by cases h), fun i j a h => (by cases h), fun i s e w => ?_⟩
    rcases ini_get e with ⟨y, h1, h2⟩ | h2 <;> subst h2 <;> cases w
end
section
variable {P : Program} {w : World} {K : PySem.W.Frag} {mg : Str → Option Value} {base : Heap} {CA : EvC}
/-- THE RULE for a def: its body and what that gives -/
theorem okD {x qual : Str} {st : Stmt} {f : Addr} {fd : FuncData} {N ps : List Str} {k : Nat} {s : CS} (F : Fun K x qual st f fd) (S : FnScope N ps (defScope st))
    (hbody : ∀ (cdv : Value) (A : Around) (outer : List Env) (s0 : Shared) (H : Hp) (E : XK), Room k (A.deeper (PyProof.Rows.envOfC qual (defScope st) s0.heap.objs.size f cdv)) →
      ∃ t, PSs (cxOf (L2.CX P w) P w K mg base N qual (defScope st) f cdv A outer s0 H E) (defBody st) t ∧ DS K CA (fun cls d _ H => E cls d H) t s) :
    FnOk P w K mg base (L2.CX P w) (k + 1) f fd ps (spD K CA (fnD ps.length N.length s)) := by
  refine F.okX S (fun vs H Q E h => ?_) (fun cdv A outer s0 H vs Q E hr h => ?_)
  · obtain ⟨F, ds, r, _, hd, hz, _⟩ := h
    unfold fnD at hz
    split at hz
    · rename_i hl; rw [hd.length]; exact hl
    · cases hz
  · obtain ⟨t, h1, h2⟩ := hbody cdv A outer s0 H E hr
    refine ⟨t, h1, ?_⟩
    obtain ⟨F, ds, r, sm, hd, hz, hq, he⟩ := h
    unfold fnD at hz
    split at hz
    · have A0 : At K CA F H (ini N.length ds) (L2.start N vs) H := ⟨F, Bs.refl, rep_ini sm hd⟩
      split at hz
      · rename_i r' e
        cases hz
        exact h2 F H _ H _ _ _ A0 e fun v F' H' g ok => hq v F' H' g ok
      · rename_i ρ e
        cases hz
        refine h2 F H _ H _ _ _ A0 e fun σ' H' A' => ?_
        obtain ⟨F', b, R⟩ := A'
        exact hq .non F' H' (b.gr R.sub) Dat.n
      · rename_i c e
        cases hz
        exact h2 F H _ H _ _ _ A0 e fun σ' H' s' => he c rfl H' s'
      · cases hz
    · cases hz
end
end DD
/-! the rules that a def's proof is written in: what runs, and what it gives, in one -/
namespace DD
open PySem PySem.Spec L2
section
variable (X : Cx) (K : PySem.W.Frag) (CA : EvC) (W : WX)
structure PX (e : Expr) (te : TE) (f : CF) : Prop where
  pe : PE X e te
  de : DE K CA W te f
structure PTX (e : Expr) (tt : TT) (f : CF) : Prop where
  pt : PT X e tt
  dt : DT K CA W tt f
structure PWX (e : Expr) (tt : TT) (f : CF) : Prop where
  pw : PW X e tt
  dt : DT K CA W tt f
structure PAX (es : List Expr) (ta : TA) (fs : List CF) : Prop where
  pa : PA X es ta
  da : DA K CA W ta fs
structure POX (e : Option Expr) (to : TO) (p : Option CF) : Prop where
  po : PO X e to
  od : DO K CA W to p
structure PIX (tg iter : Expr) (wi : TI) (it : CI) : Prop where
  pi : PI X tg iter wi
  di : DI K CA W wi it
structure PSX (st : Stmt) (t : TS) (s : CS) : Prop where
  ps : PS X st t
  ds : DS K CA W t s
structure PSsX (st : List Stmt) (t : TS) (s : CS) : Prop where
  ps : PSs X st t
  ds : DS K CA W t s
end
structure PGX (X : Cx) (K : PySem.W.Frag) (tgt : Expr) (g : TG) (tg : CT) (is : List Nat) : Prop where
  pg : PG X tgt g
  dg : DG K g tg is
/-- a def that stands under a name, and what it gives -/
structure DefAt (P : Program) (w : World) (K : PySem.W.Frag) (mg : Str → Option Value) (base : Heap) (CA : EvC) (k : Nat) (x : Str) (φ : List PV → Option ER) : Prop where
  ex : ∃ (f : Addr) (fd : FuncData) (ps : List Str), FnOk P w K mg base (L2.CX P w) k f fd ps (spD K CA φ) ∧ mg x = some (.ref f) ∧ PySem.W.keepIn K (.ref f) = true ∧ Binds K fd ps []
/-- an own error's class, its number c -/
structure ErrAt (K : PySem.W.Frag) (mg : Str → Option Value) (CA : EvC) (x : Str) (c : Err) : Prop where
  g : mg x = some (.ref (CA c))
  q : PySem.W.excIn K (CA c) [.type "ValueError", .type "Exception", .type "BaseException", .type "object"] "ValueError.__new__" = true
  k : PySem.W.keepIn K (.ref (CA c)) = true
  b : PySem.W.subIn K (.ref (CA c)) (.type "BaseException") = some true
  t : PySem.W.typeIn K (.ref (CA c)) = some (.type "type")
section
variable {X : Cx} {K : PySem.W.Frag} {CA : EvC} {W : WX} {a b c e o : Expr} {ta tb tc te : TE} {fa fb fc f : CF} {pos : Pos}
/-! ### expressions -/
theorem px_var (i : Nat) {x : Str} (hN : X.N[i]? = some x := by rfl) (hv : Vis X.env.scope x := by first | exact Or.inl rfl | exact Or.inr (Or.inl rfl) | exact Or.inr (Or.inr rfl)) (hd : (x == ("__debug__" : Str)) = false := by decide)
    (hcd : (x == ("__classdict__" : Str)) = false := by decide) : PX X K CA W (.Name x pos) (tVar i) (cV i) := ⟨pe_var hN hv hd hcd, de_var⟩
theorem px_int {i : Int} {j : Nat} : PX X K CA W (.Constant (.int i) j pos) (tC (.int i)) (cK (.i i)) := ⟨pe_int, de_c fun _ => .i i⟩
theorem px_bl {x : Bool} {j : Nat} : PX X K CA W (.Constant (.bool x) j pos) (tC (.bl x)) (cK (.b x)) := ⟨pe_bl, de_c fun _ => .b x⟩
theorem px_non {j : Nat} : PX X K CA W (.Constant .none j pos) (tC .non) (cK .n) := ⟨pe_non, de_c fun _ => .n⟩
theorem px_str {x : Str} {j : Nat} (cs : List Nat) (h : x = ⟨cs.toArray⟩ := by decide +kernel) : PX X K CA W (.Constant (.str x) j pos) (tC (.str x)) (cK (.s cs)) := ⟨pe_str, de_c fun _ => by rw [h]; exact .s cs⟩
theorem px_globI {x : Str} {i : Int} {t : Tok} (hm : X.mg x = some (.int i t)) (hg : Gl X x := by rfl) (hd : (x == ("__debug__" : Str)) = false := by decide) : PX X K CA W (.Name x pos) (tC (.int i)) (cK (.i i)) :=
  ⟨pe_glob hg hm ⟨t, rfl⟩ hd, de_c fun _ => .i i⟩
theorem px_globS {x : Str} {y : Str} {t : Tok} (cs : List Nat) (hm : X.mg x = some (.str y t)) (h : y = ⟨cs.toArray⟩ := by decide +kernel) (hg : Gl X x := by rfl) (hd : (x == ("__debug__" : Str)) = false := by decide) : PX X K CA W (.Name x pos) (tC (.str y)) (cK (.s cs)) :=
  ⟨pe_glob hg hm ⟨t, rfl⟩ hd, de_c fun _ => by rw [h]; exact .s cs⟩
theorem px_add (ha : PX X K CA W a ta fa) (hb : PX X K CA W b tb fb) : PX X K CA W (.BinOp a .Add b pos) (tOp rAddA ta tb) (c2 gAdd fa fb) := ⟨pe_op or_addA ha.pe hb.pe, de_2 op_addA ha.de hb.de⟩
theorem px_sub (ha : PX X K CA W a ta fa) (hb : PX X K CA W b tb fb) : PX X K CA W (.BinOp a .Sub b pos) (tOp (rI0 fun i j => .int (i - j)) ta tb) (c2 gSub fa fb) := ⟨pe_op op_sub ha.pe hb.pe, de_2 (op_int2 fun _ _ _ => .i _) ha.de hb.de⟩
theorem px_mul (ha : PX X K CA W a ta fa) (hb : PX X K CA W b tb fb) : PX X K CA W (.BinOp a .Mult b pos) (tOp (rI CMul fun i j => .int (i * j)) ta tb) (c2 gMul fa fb) := ⟨pe_op op_mul ha.pe hb.pe, de_2 op_mulP ha.de hb.de⟩
theorem px_mod (ha : PX X K CA W a ta fa) (hb : PX X K CA W b tb fb) : PX X K CA W (.BinOp a .Mod b pos) (tOp (rI CPos fun i j => .int (i % j)) ta tb) (c2 gMod fa fb) := ⟨pe_op op_mod ha.pe hb.pe, de_2 (op_int2C fun _ _ _ => .i _) ha.de hb.de⟩
theorem px_div (ha : PX X K CA W a ta fa) (hb : PX X K CA W b tb fb) : PX X K CA W (.BinOp a .FloorDiv b pos) (tOp (rI CDiv fun i j => .int (i / j)) ta tb) (c2 gDiv fa fb) := ⟨pe_op op_fdiv ha.pe hb.pe, de_2 (op_int2C fun _ _ _ => .i _) ha.de hb.de⟩
theorem px_pow (ha : PX X K CA W a ta fa) (hb : PX X K CA W b tb fb) : PX X K CA W (.BinOp a .Pow b pos) (tOp (rI CPow fun i j => .int (i ^ j.toNat)) ta tb) (c2 gPow fa fb) := ⟨pe_op op_pow ha.pe hb.pe, de_2 (op_int2C fun _ _ _ => .i _) ha.de hb.de⟩
theorem px_neg (ha : PX X K CA W a ta fa) : PX X K CA W (.UnaryOp .USub a pos) (tUn (rU fun i => .int (-i)) ta) (c1 gNeg fa) := ⟨pe_un un_neg ha.pe, de_1 op_neg ha.de⟩
/-! comparisons, as values and as tests -/
theorem px_lt (ha : PX X K CA W a ta fa) (hb : PX X K CA W b tb fb) : PX X K CA W (.Compare a [.Lt] [b] pos) (tOp (rI0 fun i j => .bl (decide (i < j))) ta tb) (c2 gLt fa fb) := ⟨pe_cmpR op_lt ha.pe hb.pe (nomark _), de_2 (op_int2 fun _ _ _ => .b _) ha.de hb.de⟩
theorem px_le (ha : PX X K CA W a ta fa) (hb : PX X K CA W b tb fb) : PX X K CA W (.Compare a [.LtE] [b] pos) (tOp (rI0 fun i j => .bl (decide (i ≤ j))) ta tb) (c2 gLe fa fb) := ⟨pe_cmpR op_le ha.pe hb.pe (nomark _), de_2 (op_int2 fun _ _ _ => .b _) ha.de hb.de⟩
theorem px_gt (ha : PX X K CA W a ta fa) (hb : PX X K CA W b tb fb) : PX X K CA W (.Compare a [.Gt] [b] pos) (tOp (rI0 fun i j => .bl (decide (j < i))) ta tb) (c2 gGt fa fb) := ⟨pe_cmpR op_gt ha.pe hb.pe (nomark _), de_2 (op_int2 fun _ _ _ => .b _) ha.de hb.de⟩
theorem px_ge (ha : PX X K CA W a ta fa) (hb : PX X K CA W b tb fb) : PX X K CA W (.Compare a [.GtE] [b] pos) (tOp (rI0 fun i j => .bl (decide (j ≤ i))) ta tb) (c2 gGe fa fb) := ⟨pe_cmpR op_ge ha.pe hb.pe (nomark _), de_2 (op_int2 fun _ _ _ => .b _) ha.de hb.de⟩
theorem px_eq {A' : Around} {j : Nat} (hr : Room j A') (ha : PX X K CA W a ta fa) (hb : PX X K CA W b tb fb) (hA : A'.units = X.A.units := by rfl) (hK : X.K = K := by rfl) : PX X K CA W (.Compare a [.Eq] [b] pos) (tOp (rEqP K) ta tb) (c2 gEq fa fb) := by
  subst hK
  exact ⟨pe_cmpR (or_eqP (hA ▸ hr.units)) ha.pe hb.pe (nomark _), de_2 op_eqP ha.de hb.de⟩
theorem px_ne {A' : Around} {j : Nat} (hr : Room j A') (ha : PX X K CA W a ta fa) (hb : PX X K CA W b tb fb) (hA : A'.units = X.A.units := by rfl) (hK : X.K = K := by rfl) : PX X K CA W (.Compare a [.NotEq] [b] pos) (tOp (rNeP K) ta tb) (c2 gNe fa fb) := by
  subst hK
  exact ⟨pe_cmpR (or_neP (hA ▸ hr.units)) ha.pe hb.pe (nomark _), de_2 op_neP ha.de hb.de⟩
theorem px_isN (ha : PX X K CA W a ta fa) (hb : PX X K CA W b tb fb) : PX X K CA W (.Compare a [.Is] [b] pos) (tOp (fun x y H Q => y = .non ∧ Q (.bl (decide (x = .non))) H) ta tb) (c2 gIsN fa fb) := ⟨pe_cmpR op_isN ha.pe hb.pe (nomark _), de_2 op_isNP ha.de hb.de⟩
theorem px_noN (ha : PX X K CA W a ta fa) (hb : PX X K CA W b tb fb) : PX X K CA W (.Compare a [.IsNot] [b] pos) (tOp (fun x y H Q => y = .non ∧ Q (.bl (!decide (x = .non))) H) ta tb) (c2 gNoN fa fb) := ⟨pe_cmpR op_notN ha.pe hb.pe (nomark _), de_2 op_noNP ha.de hb.de⟩
theorem pt_lt (ha : PX X K CA W a ta fa) (hb : PX X K CA W b tb fb) : PTX X K CA W (.Compare a [.Lt] [b] pos) (tTest (tOp (rI0 fun i j => .bl (decide (i < j))) ta tb)) (c2 gLt fa fb) := ⟨pt_cmpR op_lt ha.pe hb.pe (nomark _), dt_test (px_lt (pos := pos) ha hb).de⟩
theorem pt_le (ha : PX X K CA W a ta fa) (hb : PX X K CA W b tb fb) : PTX X K CA W (.Compare a [.LtE] [b] pos) (tTest (tOp (rI0 fun i j => .bl (decide (i ≤ j))) ta tb)) (c2 gLe fa fb) := ⟨pt_cmpR op_le ha.pe hb.pe (nomark _), dt_test (px_le (pos := pos) ha hb).de⟩
theorem pt_gt (ha : PX X K CA W a ta fa) (hb : PX X K CA W b tb fb) : PTX X K CA W (.Compare a [.Gt] [b] pos) (tTest (tOp (rI0 fun i j => .bl (decide (j < i))) ta tb)) (c2 gGt fa fb) := ⟨pt_cmpR op_gt ha.pe hb.pe (nomark _), dt_test (px_gt (pos := pos) ha hb).de⟩
theorem pt_ge (ha : PX X K CA W a ta fa) (hb : PX X K CA W b tb fb) : PTX X K CA W (.Compare a [.GtE] [b] pos) (tTest (tOp (rI0 fun i j => .bl (decide (j ≤ i))) ta tb)) (c2 gGe fa fb) := ⟨pt_cmpR op_ge ha.pe hb.pe (nomark _), dt_test (px_ge (pos := pos) ha hb).de⟩
theorem pt_eq {A' : Around} {j : Nat} (hr : Room j A') (ha : PX X K CA W a ta fa) (hb : PX X K CA W b tb fb) (hA : A'.units = X.A.units := by rfl) (hK : X.K = K := by rfl) : PTX X K CA W (.Compare a [.Eq] [b] pos) (tTest (tOp (rEqP K) ta tb)) (c2 gEq fa fb) := by
  subst hK
  exact ⟨pt_cmpR (or_eqP (hA ▸ hr.units)) ha.pe hb.pe (nomark _), dt_test (px_eq (pos := pos) hr ha hb hA).de⟩
theorem pt_ne {A' : Around} {j : Nat} (hr : Room j A') (ha : PX X K CA W a ta fa) (hb : PX X K CA W b tb fb) (hA : A'.units = X.A.units := by rfl) (hK : X.K = K := by rfl) : PTX X K CA W (.Compare a [.NotEq] [b] pos) (tTest (tOp (rNeP K) ta tb)) (c2 gNe fa fb) := by
  subst hK
  exact ⟨pt_cmpR (or_neP (hA ▸ hr.units)) ha.pe hb.pe (nomark _), dt_test (px_ne (pos := pos) hr ha hb hA).de⟩
theorem pt_isN (ha : PX X K CA W a ta fa) (hb : PX X K CA W b tb fb) : PTX X K CA W (.Compare a [.Is] [b] pos) (tTest (tOp (fun x y H Q => y = .non ∧ Q (.bl (decide (x = .non))) H) ta tb)) (c2 gIsN fa fb) := ⟨pt_cmpR op_isN ha.pe hb.pe (nomark _), dt_test (px_isN (pos := pos) ha hb).de⟩
theorem pt_noN (ha : PX X K CA W a ta fa) (hb : PX X K CA W b tb fb) : PTX X K CA W (.Compare a [.IsNot] [b] pos) (tTest (tOp (fun x y H Q => y = .non ∧ Q (.bl (!decide (x = .non))) H) ta tb)) (c2 gNoN fa fb) := ⟨pt_cmpR op_notN ha.pe hb.pe (nomark _), dt_test (px_noN (pos := pos) ha hb).de⟩
/-- an operator of a chain -/
structure OpX (X : Cx) (K : PySem.W.Frag) (op : CmpOp) (r : R2) (g : PV → PV → Option ER) : Prop where
  o : OpR X (compareOp op) r
  d : Op2 K r g
theorem ox_lt : OpX X K .Lt (rI0 fun i j => .bl (decide (i < j))) gLt := ⟨op_lt, op_int2 fun _ _ _ => .b _⟩
theorem ox_le : OpX X K .LtE (rI0 fun i j => .bl (decide (i ≤ j))) gLe := ⟨op_le, op_int2 fun _ _ _ => .b _⟩
theorem ox_eq {A' : Around} {j : Nat} (hr : Room j A') (hA : A'.units = X.A.units := by rfl) (hK : X.K = K := by rfl) : OpX X K .Eq (rEqP K) gEq := by
  subst hK
  exact ⟨or_eqP (hA ▸ hr.units), op_eqP⟩
theorem px_chain {op op' : CmpOp} {r r' : R2} {g g' : PV → PV → Option ER} (h : OpX X K op r g) (h' : OpX X K op' r' g') (ha : PX X K CA W a ta fa) (hb : PX X K CA W b tb fb) (hc : PX X K CA W c tc fc)
    (hm : lastMarks [op, op'] [b, c] = false := by with_unfolding_all rfl) : PX X K CA W (.Compare a [op, op'] [b, c] pos) (tChain r r' ta tb tc) (cChain g g' fa fb fc) := ⟨pe_chain h.o h'.o ha.pe hb.pe hc.pe hm, de_chain h.d h'.d ha.de hb.de hc.de⟩
theorem pt_chainX {op op' : CmpOp} {r r' : R2} {g g' : PV → PV → Option ER} (h : OpX X K op r g) (h' : OpX X K op' r' g') (ha : PX X K CA W a ta fa) (hb : PX X K CA W b tb fb) (hc : PX X K CA W c tc fc)
    (hm : lastMarks [op, op'] [b, c] = false := by with_unfolding_all rfl) : PTX X K CA W (.Compare a [op, op'] [b, c] pos) (tTest (tChain r r' ta tb tc)) (cChain g g' fa fb fc) := ⟨pt_chain h.o h'.o ha.pe hb.pe hc.pe hm, dt_test (de_chain h.d h'.d ha.de hb.de hc.de)⟩
/-! tests -/
theorem pt_v (h : PX X K CA W e te f) (he : ∀ whole, isTrue e X.env whole = (do let v ← whole; standAt e.pos; holding [v] (truthy v)) := by intro _; rfl) : PTX X K CA W e (tB te) f := ⟨pt_val h.pe he, dt_B h.de⟩
variable {tt tu : TT} {rest : List Expr}
theorem pt_no (h : PTX X K CA W a tt fa) : PTX X K CA W (.UnaryOp .Not a pos) (tNot tt) (cNot fa) := ⟨pt_not h.pt, dt_not h.dt⟩
theorem pw_a1 (h : PTX X K CA W a tt fa) : PWX X K CA W (.BoolOp .And [a] pos) tt fa := ⟨pw_and1 h.pt, h.dt⟩
theorem pw_o1 (h : PTX X K CA W a tt fa) : PWX X K CA W (.BoolOp .Or [a] pos) tt fa := ⟨pw_or1 h.pt, h.dt⟩
theorem pw_a (h : PTX X K CA W a tt fa) (hr : PWX X K CA W (.BoolOp .And (b :: rest) pos) tu fb) : PWX X K CA W (.BoolOp .And (a :: b :: rest) pos) (tAnd tt tu) (cAnd fa fb) := ⟨pw_and h.pt hr.pw, dt_and h.dt hr.dt⟩
theorem pw_o (h : PTX X K CA W a tt fa) (hr : PWX X K CA W (.BoolOp .Or (b :: rest) pos) tu fb) : PWX X K CA W (.BoolOp .Or (a :: b :: rest) pos) (tOr tt tu) (cOr fa fb) := ⟨pw_or h.pt hr.pw, dt_or h.dt hr.dt⟩
theorem pt_w (h : PWX X K CA W e tt f) : PTX X K CA W e tt f := ⟨h.pw.pt, h.dt⟩
theorem px_no (h : PX X K CA W a ta fa) : PX X K CA W (.UnaryOp .Not a pos) (tNotV ta) (cNot fa) := ⟨pe_not h.pe, de_not h.de⟩
theorem px_one {op : BoolOp} (h : PX X K CA W a ta fa) : PX X K CA W (.BoolOp op [a] pos) ta fa := ⟨pe_one h.pe, h.de⟩
theorem px_a (h : PX X K CA W a ta fa) (hr : PX X K CA W (.BoolOp .And (b :: rest) pos) tb fb) : PX X K CA W (.BoolOp .And (a :: b :: rest) pos) (tAndV ta tb) (cAnd fa fb) := ⟨pe_and h.pe hr.pe, de_and h.de hr.de⟩
theorem px_o (h : PX X K CA W a ta fa) (hr : PX X K CA W (.BoolOp .Or (b :: rest) pos) tb fb) : PX X K CA W (.BoolOp .Or (a :: b :: rest) pos) (tOrV ta tb) (cOr fa fb) := ⟨pe_or h.pe hr.pe, de_or h.de hr.de⟩
/-! subscripts, slices, displays -/
theorem px_ix (ha : PX X K CA W a ta fa) (hb : PX X K CA W b tb fb) (hs : PlainIx b := by intro _ _; rfl) (hK : X.K = K := by rfl) : PX X K CA W (.Subscript a b pos) (tOp (rIx K) ta tb) (c2 gIdx fa fb) := by
  subst hK
  exact ⟨pe_ix ix_seq ha.pe hb.pe hs, de_2 op_idx ha.de hb.de⟩
theorem po_no : POX X K CA W none tNoPart none := ⟨po_none, do_none⟩
theorem po_yes (h : PX X K CA W e te f) : POX X K CA W (some e) (tPart te) (some f) := ⟨po_some h.pe, do_some h.de⟩
variable {lo hi : Option Expr} {tl th : TO} {pl ph : Option CF} {p2 : Pos}
theorem px_sl (h : PX X K CA W e te f) (h1 : POX X K CA W lo tl pl) (h2 : POX X K CA W hi th ph) (hK : X.K = K := by rfl) : PX X K CA W (.Subscript e (.Slice lo hi none p2) pos) (tSl (rSlA K) te tl th) (cSl f pl ph) := by
  subst hK
  exact ⟨pe_slice sl_any h.pe h1.po h2.po, de_sl h.de h1.od h2.od⟩
variable {es : List Expr} {t : TA} {fs : List CF}
theorem pa_n : PAX X K CA W [] tNil [] := ⟨pa_nil, da_nil⟩
theorem pa_c (h : PX X K CA W e te f) (hr : PAX X K CA W es t fs) (hs : starEach (e :: es) X.env = (false, eval e X.env) :: starEach es X.env := by rfl) : PAX X K CA W (e :: es) (tCons te t) (f :: fs) := ⟨pa_cons h.pe hr.pa hs, da_cons h.de hr.da⟩
theorem px_tup {x1 : Nat} (h : PAX X K CA W es t fs) : PX X K CA W (.Tuple es x1 pos) (tTup t) (cTup fs) := ⟨pe_tup h.pa, de_tup h.da⟩
theorem px_lst (h : PAX X K CA W es t fs) : PX X K CA W (.List es pos) (tLst t) (cLst fs) := ⟨pe_lst h.pa, de_lst h.da⟩
/-! built-ins -/
theorem pax1 (h : PX X K CA W e te f) (hs : starEach [e] X.env = (false, eval e X.env) :: starEach [] X.env := by rfl) : PA X [e] (tCons te tNil) := pa_cons h.pe pa_nil hs
theorem pax2 (h : PX X K CA W a ta fa) (h2 : PX X K CA W b tb fb) (hs : starEach [a, b] X.env = (false, eval a X.env) :: starEach [b] X.env := by rfl) (hs2 : starEach [b] X.env = (false, eval b X.env) :: starEach [] X.env := by rfl) : PA X [a, b] (tCons ta (tCons tb tNil)) := pa_cons h.pe (pa_cons h2.pe pa_nil hs2) hs
variable {p : Pos}
theorem px_len (hm : X.mg "len" = none) (h : PX X K CA W e te f) (hg : Gl X "len" := by rfl) (hs : starEach [e] X.env = (false, eval e X.env) :: starEach [] X.env := by rfl) (hK : X.K = K := by rfl) : PX X K CA W (.Call (.Name "len" p) [e] [] pos) (tCB (rLenA K) (tCons te tNil)) (c1 gLen f) := by
  subst hK
  exact ⟨pe_callB call_len hg hm (by decide +kernel) (pax1 h hs) (by decide) (by decide) hs rfl, de_B1 op_len h.de⟩
theorem px_ord (hm : X.mg "ord" = none) (h : PX X K CA W e te f) (hg : Gl X "ord" := by rfl) (hs : starEach [e] X.env = (false, eval e X.env) :: starEach [] X.env := by rfl) : PX X K CA W (.Call (.Name "ord" p) [e] [] pos) (tCB rOrd (tCons te tNil)) (c1 gOrd f) :=
  ⟨pe_callB call_ord hg hm (by decide +kernel) (pax1 h hs) (by decide) (by decide) hs rfl, de_B1 op_ord h.de⟩
theorem px_sum (hc : X.calm = true) (hm : X.mg "sum" = none) (h : PX X K CA W e te f) (hg : Gl X "sum" := by rfl) (hs : starEach [e] X.env = (false, eval e X.env) :: starEach [] X.env := by rfl) (hK : X.K = K := by rfl) : PX X K CA W (.Call (.Name "sum" p) [e] [] pos) (tCB (rSum K) (tCons te tNil)) (c1 gSum f) := by
  subst hK
  exact ⟨pe_callB (cr_sum hc) hg hm (by decide +kernel) (pax1 h hs) (by decide) (by decide) hs rfl, de_B1 op_sum h.de⟩
theorem px_all (hc : X.calm = true) (hm : X.mg "all" = none) (h : PX X K CA W e te f) (hg : Gl X "all" := by rfl) (hs : starEach [e] X.env = (false, eval e X.env) :: starEach [] X.env := by rfl) (hK : X.K = K := by rfl) : PX X K CA W (.Call (.Name "all" p) [e] [] pos) (tCB (rAll K) (tCons te tNil)) (c1 gAll f) := by
  subst hK
  exact ⟨pe_callB (cr_all hc) hg hm (by decide +kernel) (pax1 h hs) (by decide) (by decide) hs rfl, de_B1 op_all h.de⟩
theorem px_min (hc : X.calm = true) (hm : X.mg "min" = none) (h : PX X K CA W a ta fa) (h2 : PX X K CA W b tb fb) (hg : Gl X "min" := by rfl) (hs : starEach [a, b] X.env = (false, eval a X.env) :: starEach [b] X.env := by rfl) (hs2 : starEach [b] X.env = (false, eval b X.env) :: starEach [] X.env := by rfl) (hpl : (backTo pos (starEach [b] X.env)).any (·.1) = false := by rfl) :
    PX X K CA W (.Call (.Name "min" p) [a, b] [] pos) (tCB rMin2 (tCons ta (tCons tb tNil))) (c2 gMin2 fa fb) := ⟨pe_callB (call_min2 hc) hg hm (by decide +kernel) (pax2 h h2 hs hs2) (by decide) (by decide) hs hpl, de_B2 op_min2 h.de h2.de⟩
theorem px_max (hc : X.calm = true) (hm : X.mg "max" = none) (h : PX X K CA W a ta fa) (h2 : PX X K CA W b tb fb) (hg : Gl X "max" := by rfl) (hs : starEach [a, b] X.env = (false, eval a X.env) :: starEach [b] X.env := by rfl) (hs2 : starEach [b] X.env = (false, eval b X.env) :: starEach [] X.env := by rfl) (hpl : (backTo pos (starEach [b] X.env)).any (·.1) = false := by rfl) :
    PX X K CA W (.Call (.Name "max" p) [a, b] [] pos) (tCB rMax2 (tCons ta (tCons tb tNil))) (c2 gMax2 fa fb) := ⟨pe_callB (call_max2 hc) hg hm (by decide +kernel) (pax2 h h2 hs hs2) (by decide) (by decide) hs hpl, de_B2 op_max2 h.de h2.de⟩
theorem px_intc (hm : X.mg "int" = none) (h : PX X K CA W e te f) (hg : Gl X "int" := by rfl) (hs : starEach [e] X.env = (false, eval e X.env) :: starEach [] X.env := by rfl) : PX X K CA W (.Call (.Name "int" p) [e] [] pos) (tCB rInt1 (tCons te tNil)) (c1 gInt f) :=
  ⟨pe_callTy call_int1 hg hm (by decide +kernel) (pax1 h hs) (by decide) (by decide) hs rfl, de_B1 op_int1 h.de⟩
theorem px_list (hm : X.mg "list" = none) (h : PX X K CA W e te f) (hg : Gl X "list" := by rfl) (hs : starEach [e] X.env = (false, eval e X.env) :: starEach [] X.env := by rfl) (hK : X.K = K := by rfl) : PX X K CA W (.Call (.Name "list" p) [e] [] pos) (tCB (rListO K) (tCons te tNil)) (c1 gList f) := by
  subst hK
  exact ⟨pe_callTy call_list_of hg hm (by decide +kernel) (pax1 h hs) (by decide) (by decide) hs rfl, de_B1 op_list h.de⟩
theorem px_isi {T : Str} {n : String} {p3 : Pos} (hm : X.mg "isinstance" = none) (hmT : X.mg T = none) (h : PX X K CA W e te f) (hv : bootBuiltins T = some (.type n) := by decide +kernel) (hgT : Gl X T := by rfl) (hg : Gl X "isinstance" := by rfl) (hn : T ≠ "__name__" := by decide) (hdb : (T == ("__debug__" : Str)) = false := by decide)
    (hs : starEach [e, .Name T p3] X.env = (false, eval e X.env) :: starEach [.Name T p3] X.env := by rfl) (hK : X.K = K := by rfl) :
    PX X K CA W (.Call (.Name "isinstance" p) [e, .Name T p3] [] pos) (tCB (rIsiN K) (tCons te (tCons (tC (.ty n)) tNil))) (c1 (gIs n) f) := by
  subst hK
  exact ⟨pe_callB call_isiN hg hm (by decide +kernel) (pa_cons h.pe (pa_cons (pe_bltn (v := .ty n) hgT hmT hv rfl hn hdb) pa_nil rfl) hs) (by decide) (by decide) hs rfl, de_isi h.de⟩
/-! calls of defs -/
theorem px_call {k j : Nat} {x : Str} {φ : List PV → Option ER} (G : DefAt X.prog X.w K X.mg X.base CA k x φ) {A' : Around} (hr : Room j A') (hj : k ≤ j) (tk : Takes X W) (ha : PAX X K CA W (e :: es) t fs) (hA : A' = X.A := by rfl) (hg : Gl X x := by rfl) (hdb : (x == ("__debug__" : Str)) = false := by decide)
    (he : starEach (e :: es) X.env = (false, eval e X.env) :: starEach es X.env := by rfl) (hpl : (backTo pos (starEach es X.env)).any (·.1) = false := by rfl) (hK : X.K = K := by rfl) :
    PX X K CA W (.Call (.Name x p) (e :: es) [] pos) (tCallS (spD K CA φ) (WE W) t) (cCall φ fs) := by
  subst hK
  obtain ⟨fa, fd, ps, F, hm, hk, hb⟩ := G.ex
  subst hA
  exact ⟨pe_callS F (hr.mono hj) hg hm hk hb (fun σ => passAt tk σ) ha.pa hdb he hpl, de_call ha.da⟩
/-! what is walked; targets; comprehensions -/
variable {tg iter : Expr} {wi : TI} {it : CI}
theorem pix_l (h : PX X K CA W e te f) (hK : X.K = K := by rfl) : PIX X K CA W tg e (iList K te) (iL f) := by
  subst hK
  exact ⟨pi_list h.pe, di_list h.de⟩
theorem pix_t (h : PX X K CA W e te f) (hK : X.K = K := by rfl) : PIX X K CA W tg e (iTup K te) (iT f) := by
  subst hK
  exact ⟨pi_tup h.pe, di_tup h.de⟩
theorem pix_s (h : PX X K CA W e te f) : PIX X K CA W tg e (iStr te) (iS f) := ⟨pi_str h.pe, di_str h.de⟩
theorem pix_r1 (hm : X.mg "range" = none) (h : PX X K CA W e te f) (hg : Gl X "range" := by rfl) (hs : starEach [e] X.env = [(false, eval e X.env)] := by rfl) : PIX X K CA W tg (.Call (.Name "range" p) [e] [] pos) (iRng1 (tCons te tNil)) (iR1 f) := ⟨pi_range1 hg hm (pax1 h hs) hs, di_r1 h.de⟩
theorem pix_r2 (hm : X.mg "range" = none) (h : PX X K CA W a ta fa) (h2 : PX X K CA W b tb fb) (hg : Gl X "range" := by rfl) (hs : starEach [a, b] X.env = [(false, eval a X.env), (false, eval b X.env)] := by rfl) (hs2 : starEach [b] X.env = [(false, eval b X.env)] := by rfl) :
    PIX X K CA W tg (.Call (.Name "range" p) [a, b] [] pos) (iRng2 (tCons ta (tCons tb tNil))) (iR2 fa fb) := ⟨pi_range2 hg hm (pa_cons h.pe (pa_cons h2.pe pa_nil hs2) (by rw [hs, hs2])) hs hs2, di_r2 h.de h2.de⟩
theorem pgx_n (i : Nat) {x : Str} (hN : X.N.Nodup) (hi : X.N[i]? = some x := by rfl) (hx : Loc X.env.scope x := by first | exact Or.inl rfl | exact Or.inr rfl) (hf : X.fn x = true ∨ X.env.scope.names.lookup x = some .local := by first | exact .inl rfl | exact .inr rfl | assumption) : PGX X K (.Name x pos) (gName i) (tgN i) [i] := ⟨pg_name hN hi hx hf, dg_name⟩
theorem pgx_2 (i j : Nat) {x y : Str} {p1 p2 : Pos} {k : Nat} (hc : X.calm = true) (hN : X.N.Nodup) (hi : X.N[i]? = some x := by rfl) (hj : X.N[j]? = some y := by rfl) (hx : Loc X.env.scope x := by first | exact Or.inl rfl | exact Or.inr rfl) (hy : Loc X.env.scope y := by first | exact Or.inl rfl | exact Or.inr rfl)
    (hfx : X.fn x = true ∨ X.env.scope.names.lookup x = some .local := by first | exact .inl rfl | exact .inr rfl | assumption) (hfy : X.fn y = true ∨ X.env.scope.names.lookup y = some .local := by first | exact .inl rfl | exact .inr rfl | assumption) (hK : X.K = K := by rfl) :
    PGX X K (.Tuple [.Name x p1, .Name y p2] k pos) (gTup K 2 (gCons (gName i) (gCons (gName j) gNil))) (tg2 i j) [i, j] := by
  subst hK
  exact ⟨pg_tup hc (pgs_cons (pg_name hN hi hx hfx) (pgs_cons (pg_name hN hj hy hfy) pgs_nil rfl) rfl) rfl rfl, dg_two⟩
structure PTsX (X : Cx) (K : PySem.W.Frag) (CA : EvC) (W : WX) (ifs : List Expr) (t : TT) (f : CF) : Prop where
  pt : PTs X ifs t
  dt : DT K CA W t f
theorem pts_n : PTsX X K CA W [] tYes cYes := ⟨pts_nil, dt_yes⟩
theorem pts_1 (h : PTX X K CA W c tt fc) : PTsX X K CA W [c] tt fc := ⟨pts_one h.pt, h.dt⟩
variable {elt : Expr} {ifs : List Expr} {scope : Scope} {g : TG} {tgf : CT} {is : List Nat}
theorem px_lc (own : List (Str × Nat)) {vs : List Nat} (hc : X.calm = true) (hN : X.N.Nodup) (hi : PIX X K CA W tg iter wi it) (ok : BlkOk X.N X.env.scope scope own) (hvs : own.map (·.2) = vs)
    (hg : ∀ (s : Shared) (H : Hp) (C : Addr) (cl : List (Str × Addr)) (fp : List Addr), PGX (X.blk s H scope (compEnvC scope cl C X.env) fp) K tg g tgf is) (ht : ∀ (s : Shared) (H : Hp) (C : Addr) (cl : List (Str × Addr)) (fp : List Addr), PTsX (X.blk s H scope (compEnvC scope cl C X.env) fp) K CA W0 ifs tt fa)
    (he : ∀ (s : Shared) (H : Hp) (C : Addr) (cl : List (Str × Addr)) (fp : List Addr), PX (X.blk s H scope (compEnvC scope cl C X.env) fp) K CA W0 elt te f) (hv : is.all (fun i => vs.contains i) = true := by decide) (hs : ∀ x, foldedSetIterable iter X.env x = pure x := by intro _; rfl) :
    PX X K CA W (.ListComp elt [⟨tg, iter, ifs, 0⟩] scope pos) (tLc wi g tt te vs) (cLc vs it tgf fa f) := by
  subst hvs
  refine ⟨pe_lc hc hN hi.pi ok (fun s H C cl fp => (hg s H C cl fp).pg) (fun s H C cl fp => (ht s H C cl fp).pt) (fun s H C cl fp => (he s H C cl fp).pe) hs, ?_⟩
  refine de_lc hi.di (hg X.s_0 X.H_0 0 [] []).dg (ht X.s_0 X.H_0 0 [] []).dt (he X.s_0 X.H_0 0 [] []).de fun i hi => ?_
  have := List.all_eq_true.mp hv i hi
  simpa using this
/-! ### statements -/
variable {st : Stmt} {sts : List Stmt} {tS tU : TS} {s u : CS} {A B : List Stmt}
theorem sx_nil : PSsX X K CA W [] tNext cNext := ⟨pss_nil, ds_next⟩
theorem sx_cons (h1 : PSX X K CA W st tS s) (h2 : PSsX X K CA W sts tU u) : PSsX X K CA W (st :: sts) (tSeq tS tU) (cSeq s u) := ⟨pss_cons h1.ps h2.ps, ds_seq h1.ds h2.ds⟩
theorem sx_one (h : PSX X K CA W st tS s) : PSsX X K CA W [st] tS s := ⟨pss_one h.ps, h.ds⟩
theorem sx_frz (i : Nat) (h : PSsX X K CA W sts tS s) : PSsX X K CA W sts tS (cFrz i s) := ⟨h.ps, ds_frz h.ds⟩
theorem sx_nv : PSsX X K CA W sts tNever cNever := ⟨pss_never, ds_never⟩
theorem s_nv : PSX X K CA W st tNever cNever := ⟨ps_never, ds_never⟩
theorem s_pass : PSX X K CA W (.Pass pos) tNext cNext := ⟨ps_pass, ds_next⟩
theorem s_brk : PSX X K CA W (.Break pos) tBreak cBrk := ⟨ps_break, ds_brk⟩
theorem s_cnt : PSX X K CA W (.Continue pos) tCont cCnt := ⟨ps_continue, ds_cnt⟩
theorem s_doc {x : Str} {j : Nat} {pos' : Pos} : PSX X K CA W (.Expr (.Constant (.str x) j pos) pos') tNext cNext := ⟨ps_doc, ds_next⟩
theorem s_set (i : Nat) {x : Str} {pos' : Pos} (hN : X.N.Nodup) (h : PX X K CA W e te f) (hi : X.N[i]? = some x := by rfl) (hx : Loc X.env.scope x := by first | exact Or.inl rfl | exact Or.inr rfl) (hs : swapsWith e (some (.Name x pos')) pos.line X.env = pure false := by rfl) (hf : X.fn x = true ∨ X.env.scope.names.lookup x = some .local := by first | exact .inl rfl | exact .inr rfl | assumption) :
    PSX X K CA W (.Assign [.Name x pos'] e pos) (tAsg te (gName i)) (cAsg i f) := ⟨ps_set hN hi hx h.pe hs hf, ds_asg h.de⟩
theorem s_setM (i : Nat) {x : Str} {pos' : Pos} (hN : X.N.Nodup) (h : PX X K CA W e te f) (hi : X.N[i]? = some x := by rfl) (hx : Loc X.env.scope x := by first | exact Or.inl rfl | exact Or.inr rfl) (hs : swapsWith e (some (.Name x pos')) pos.line X.env = pure false := by rfl) (hf : X.fn x = true ∨ X.env.scope.names.lookup x = some .local := by first | exact .inl rfl | exact .inr rfl | assumption) :
    PSX X K CA W (.Assign [.Name x pos'] e pos) (tAsg te (gName i)) (cAsgM i f) := ⟨ps_set hN hi hx h.pe hs hf, ds_asgM h.de⟩
/-- name = [.. for ..] on one line -/
theorem s_setLc (i : Nat) (own : List (Str × Nat)) {vs : List Nat} {y : Str} {py spos : Pos} (hc : X.calm = true) (hN : X.N.Nodup) (hi : PIX X K CA W tg iter wi it) (ok : BlkOk X.N X.env.scope scope own) (hvs : own.map (·.2) = vs)
    (hg : ∀ (s : Shared) (H : Hp) (C : Addr) (cl : List (Str × Addr)) (fp : List Addr), PGX (X.blk s H scope (compEnvC scope cl C X.env) fp) K tg g tgf is) (ht : ∀ (s : Shared) (H : Hp) (C : Addr) (cl : List (Str × Addr)) (fp : List Addr), PTsX (X.blk s H scope (compEnvC scope cl C X.env) fp) K CA W0 ifs tt fa)
    (he : ∀ (s : Shared) (H : Hp) (C : Addr) (cl : List (Str × Addr)) (fp : List Addr), PX (X.blk s H scope (compEnvC scope cl C X.env) fp) K CA W0 elt te f)
    (hy : X.N[i]? = some y := by rfl) (hyl : X.env.scope.names.lookup y = some .local := by rfl) (hsw : swapsWith (.ListComp elt [⟨tg, iter, ifs, 0⟩] scope pos) (some (.Name y py)) spos.line X.env = pure true := by exact sw_true rfl rfl rfl (by decide +kernel))
    (hv : is.all (fun i => vs.contains i) = true := by decide) (hs : ∀ x, foldedSetIterable iter X.env x = pure x := by intro _; rfl) :
    PSX X K CA W (.Assign [.Name y py] (.ListComp elt [⟨tg, iter, ifs, 0⟩] scope pos) spos) (tAsg (tLc wi g tt te vs) (gName i)) (cAsg i (cLc vs it tgf fa f)) := by
  subst hvs
  refine ⟨ps_setLc hc hN hy hyl hsw hi.pi ok (fun s H C cl fp => (hg s H C cl fp).pg) (fun s H C cl fp => (ht s H C cl fp).pt) (fun s H C cl fp => (he s H C cl fp).pe) hs, ds_asg ?_⟩
  refine de_lc hi.di (hg X.s_0 X.H_0 0 [] []).dg (ht X.s_0 X.H_0 0 [] []).dt (he X.s_0 X.H_0 0 [] []).de fun i hi => ?_
  have := List.all_eq_true.mp hv i hi
  simpa using this
theorem s_exp (h : PX X K CA W e te f) (hs : swapsWith e none pos.line X.env = pure false := by rfl) : PSX X K CA W (.Expr e pos) (tDrop te) (cDrop f) := ⟨ps_expr h.pe hs, ds_drop h.de⟩
theorem s_ret (h : PX X K CA W e te f) : PSX X K CA W (.Return (some e) pos) (tRet te) (cRet f) := ⟨ps_ret h.pe, ds_ret h.de⟩
theorem s_retV (i : Nat) {x : Str} {pos' : Pos} (h : PX X K CA W (.Name x pos') (tVar i) (cV i)) : PSX X K CA W (.Return (some (.Name x pos')) pos) (tRet (tVar i)) (cRetV i) := ⟨ps_ret h.pe, ds_retV⟩
theorem s_retN : PSX X K CA W (.Return none pos) tRetN cRetN := ⟨ps_retN, ds_retN⟩
theorem s_if (hc : PTX X K CA W c tt fc) (h1 : PSsX X K CA W A tS s) (h2 : PSsX X K CA W B tU u) : PSX X K CA W (.If c A B pos) (tIfS tt tS tU) (cIf fc s u) := ⟨ps_if hc.pt h1.ps h2.ps, ds_if hc.dt h1.ds h2.ds⟩
theorem s_for (hp : PassesOwn (model X.prog X.w) X.A X.env X.xe) (hc : X.calm = true) (hi : PIX X K CA W tg iter wi it) (hg : PGX X K tg g tgf is) (hb : PSsX X K CA W B tS s) (hs : ∀ x, foldedSetIterable iter X.env x = pure x := by intro _; rfl) :
    PSX X K CA W (.For tg iter B [] pos) (tFor wi g tS) (cFor it tgf s) := ⟨ps_for hp hc hi.pi hg.pg hb.ps hs, ds_for hi.di hg.dg hb.ds⟩
theorem s_wh (n : Nat) (hp : PassesOwn (model X.prog X.w) X.A X.env X.xe) (hc : PTX X K CA W c tt fc) (hb : PSsX X K CA W B tS s) : PSX X K CA W (.While c B [] pos) (tWhile tt tS) (cWh n fc s) := ⟨ps_while hp hc.pt hb.ps, ds_wh hc.dt hb.ds⟩
theorem s_raise {x m : Str} {cn : Err} {j : Nat} {p p2 pos2 : Pos} (hc : X.calm = true) (tk : Takes X W) (G : ErrAt K X.mg CA x cn) (hg : Gl X x := by rfl) (hdb : (x == ("__debug__" : Str)) = false := by decide) (hK : X.K = K := by rfl) :
    PSX X K CA W (.Raise (some (.Call (.Name x p) [.Constant (.str m) j p2] [] pos)) none pos2) (fun _ σ H => (fun (_ : L2.St) (H : Hp) (Q : XK) => Q (.ref (CA cn)) none H) σ H fun cls d H' => W cls d σ H') (cRaise cn) := by
  subst hK
  exact ⟨ps_raise hc tk (pmk_own PySem.F.excBase_ValueError G.q G.g G.k (raises_own G.b G.t) hg hdb), ds_raise⟩
/-! a slot's list -/
variable {apos cpos : Pos}
theorem s_app (i : Nat) (h0 : PX X K CA W o (tVar i) (cV i)) (h : PX X K CA W e te f) (hbase : attributeBase o "append" X.env (eval o X.env) = eval o X.env := by rfl)
    (hfew : ((backTo cpos (starEach [e] X.env)).all (fun x => !x.1) && (backToKw cpos (keywordEach [] X.env)).all (fun x => x.1.isSome)
      && decide (([e] : List Expr).length + ([] : List Keyword).length + (if ([] : List Keyword).isEmpty then 0 else 1) < 30)) = true := by rfl)
    (hline : (apos.endLine == cpos.line) = true := by rfl) (hs : starEach [e] X.env = (false, eval e X.env) :: starEach [] X.env := by rfl) (hsw : swapsWith (.Call (.Attribute o "append" apos) [e] [] cpos) none pos.line X.env = pure false := by rfl) (hK : X.K = K := by rfl) :
    PSX X K CA W (.Expr (.Call (.Attribute o "append" apos) [e] [] cpos) pos) (tDrop (tBM K "list" rAppend (tVar i) (tCons te tNil))) (cApp i f) := by
  subst hK
  exact ⟨ps_expr (pe_bm PySem.F.plainAttrs_list PySem.F.slot_list_append PySem.F.type_list_append mt_append h0.pe (pax1 h hs) hbase hfew hline hs rfl) hsw, ds_app h.de⟩
theorem s_ext (i : Nat) (h0 : PX X K CA W o (tVar i) (cV i)) (h : PX X K CA W e te f) (hbase : attributeBase o "extend" X.env (eval o X.env) = eval o X.env := by rfl)
    (hfew : ((backTo cpos (starEach [e] X.env)).all (fun x => !x.1) && (backToKw cpos (keywordEach [] X.env)).all (fun x => x.1.isSome)
      && decide (([e] : List Expr).length + ([] : List Keyword).length + (if ([] : List Keyword).isEmpty then 0 else 1) < 30)) = true := by rfl)
    (hline : (apos.endLine == cpos.line) = true := by rfl) (hs : starEach [e] X.env = (false, eval e X.env) :: starEach [] X.env := by rfl) (hsw : swapsWith (.Call (.Attribute o "extend" apos) [e] [] cpos) none pos.line X.env = pure false := by rfl) (hK : X.K = K := by rfl) :
    PSX X K CA W (.Expr (.Call (.Attribute o "extend" apos) [e] [] cpos) pos) (tDrop (tBM K "list" rExtend (tVar i) (tCons te tNil))) (cExt i f) := by
  subst hK
  exact ⟨ps_expr (pe_bm PySem.F.plainAttrs_list PySem.F.slot_list_extend PySem.F.type_list_extend mt_extend h0.pe (pax1 h hs) hbase hfew hline hs rfl) hsw, ds_ext h.de⟩
theorem s_rev (i : Nat) (h0 : PX X K CA W o (tVar i) (cV i)) (hbase : attributeBase o "reverse" X.env (eval o X.env) = eval o X.env := by rfl) (hline : (apos.endLine == cpos.line) = true := by rfl) (hsw : swapsWith (.Call (.Attribute o "reverse" apos) [] [] cpos) none pos.line X.env = pure false := by rfl) (hK : X.K = K := by rfl) :
    PSX X K CA W (.Expr (.Call (.Attribute o "reverse" apos) [] [] cpos) pos) (tDrop (tBM0 K "list" rReverse (tVar i))) (cRev i) := by
  subst hK
  exact ⟨ps_expr (pe_bm0 PySem.F.plainAttrs_list PySem.F.slot_list_reverse PySem.F.type_list_reverse mt_reverse h0.pe hbase hline) hsw, ds_rev⟩
theorem s_ins (i : Nat) (h0 : PX X K CA W o (tVar i) (cV i)) (hk : PX X K CA W a ta fa) (h : PX X K CA W e te f) (hbase : attributeBase o "insert" X.env (eval o X.env) = eval o X.env := by rfl)
    (hfew : ((backTo cpos (starEach [a, e] X.env)).all (fun x => !x.1) && (backToKw cpos (keywordEach [] X.env)).all (fun x => x.1.isSome)
      && decide (([a, e] : List Expr).length + ([] : List Keyword).length + (if ([] : List Keyword).isEmpty then 0 else 1) < 30)) = true := by rfl)
    (hline : (apos.endLine == cpos.line) = true := by rfl) (hs : starEach [a, e] X.env = (false, eval a X.env) :: starEach [e] X.env := by rfl) (hs2 : starEach [e] X.env = (false, eval e X.env) :: starEach [] X.env := by rfl) (hpl : (backTo cpos (starEach [e] X.env)).any (·.1) = false := by rfl)
    (hsw : swapsWith (.Call (.Attribute o "insert" apos) [a, e] [] cpos) none pos.line X.env = pure false := by rfl) (hK : X.K = K := by rfl) :
    PSX X K CA W (.Expr (.Call (.Attribute o "insert" apos) [a, e] [] cpos) pos) (tDrop (tBM K "list" rIns (tVar i) (tCons ta (tCons te tNil)))) (cIns i fa f) := by
  subst hK
  exact ⟨ps_expr (pe_bm PySem.F.plainAttrs_list PySem.F.slot_list_insert PySem.F.type_list_insert mt_insert h0.pe (pax2 hk h hs hs2) hbase hfew hline hs hpl) hsw, ds_ins hk.de h.de⟩
end
/-! ### a def by its body -/
section
variable {P : Program} {w : World} {K : PySem.W.Frag} {mg : Str → Option Value} {base : Heap} {CA : EvC}
/-- what stands of a def behind the top -/
structure FunAt (K : PySem.W.Frag) (mg : Str → Option Value) (x : Str) (st : Stmt) (ps : List Str) : Prop where
  ex : ∃ (f : Addr) (fd : FuncData), Fun K x x st f fd ∧ mg x = some (.ref f) ∧ Binds K fd ps []
/-- a def's body, and what it gives -/
def Body (P : Program) (w : World) (K : PySem.W.Frag) (mg : Str → Option Value) (base : Heap) (CA : EvC) (k : Nat) (x : Str) (st : Stmt) (N : List Str) (s : CS) : Prop :=
  ∀ (X : Cx) (hX : ∃ (f : Addr) (cdv : Value) (A : Around) (outer : List Env) (s0 : Shared) (H : Hp) (E : XK), X = cxOf (L2.CX P w) P w K mg base N x (defScope st) f cdv A outer s0 H E), Room k X.A → ∀ E : XK, Takes X (fun cls d _ H => E cls d H) →
      PassesOwn (model X.prog X.w) X.A X.env X.xe → ∃ t, PSsX X K CA (fun cls d _ H => E cls d H) (defBody st) t s
theorem Body.fn {x : Str} {st : Stmt} {N ps : List Str} {k : Nat} {s : CS} {f : Addr} {fd : FuncData} (B : Body P w K mg base CA k x st N s) (F : Fun K x x st f fd) (S : FnScope N ps (defScope st)) :
    FnOk P w K mg base (L2.CX P w) (k + 1) f fd ps (spD K CA (fnD ps.length N.length s)) := okD F S fun cdv A outer s0 H E hr => by
  obtain ⟨t, h⟩ := B _ ⟨f, cdv, A, outer, s0, H, E, rfl⟩ hr E (takes_of rfl rfl rfl rfl) (passes_of rfl)
  exact ⟨t, h.ps, h.ds⟩
theorem defAt {x : Str} {st : Stmt} {N ps : List Str} {k : Nat} {s : CS} (T : FunAt K mg x st ps) (S : FnScope N ps (defScope st)) (B : Body P w K mg base CA k x st N s) :
    DefAt P w K mg base CA (k + 1) x (fnD ps.length N.length s) := by
  obtain ⟨f, fd, F, hm, hb⟩ := T.ex
  exact ⟨⟨f, fd, ps, B.fn F S, hm, F.kp, hb⟩⟩
end
end DD
/-! the end: what the top has left, and the law -/
namespace DD
open PySem PySem.Spec L2
theorem funAt_mk {K : PySem.W.Frag} {h : Heap} {mg : Str → Option Value} (X : K.In h) (G : h.Ns mainGlobals mg) {x : Str} {st : Stmt} {ps : List Str} {f : Addr} {oc : Value} {od an : Option Addr} {osl : Array (Option Value)} {kV doc pm cdv ct : Value}
    (hb : ∀ (kV doc pm : Value) (an : Option Addr) (cdv ct : Value) (us : List Value), us.length = ps.length → bindArgs (PySem.W.fnOf x x (defArgs st) (defBody st) (defScope st) .none kV doc pm an cdv ct) ⟨us, []⟩ = pure (ps.zip us))
    (a : PySem.W.nsIn K mainGlobals x = some (some (.ref f))) (l : K.lookup f = some ⟨oc, od, .func (PySem.W.fnOf x x (defArgs st) (defBody st) (defScope st) .none kV doc pm an cdv ct), osl⟩) (c : PySem.W.codeIn K cdv x = true) (k : PySem.W.keepIn K (.ref f) = true) :
    FunAt K mg x st ps := ⟨f, _, fun_mk l c k, PySem.W.mg_of X G a, (fun_mk l c k).binds hb⟩
theorem errAt_mk {K : PySem.W.Frag} {h : Heap} {mg : Str → Option Value} (X : K.In h) (G : h.Ns mainGlobals mg) {x : Str} {C : Addr} (a : PySem.W.nsIn K mainGlobals x = some (some (.ref C)))
    (q : PySem.W.excIn K C [.type "ValueError", .type "Exception", .type "BaseException", .type "object"] "ValueError.__new__" = true) (k : PySem.W.keepIn K (.ref C) = true) (b : PySem.W.subIn K (.ref C) (.type "BaseException") = some true) (t : PySem.W.typeIn K (.ref C) = some (.type "type")) :
    ∃ C : Addr, ∀ CA : EvC, ∀ c : Err, CA c = C → ErrAt K mg CA x c := ⟨C, fun CA c e => by subst e; exact ⟨PySem.W.mg_of X G a, q, k, b, t⟩⟩
theorem noneAt {K : PySem.W.Frag} {h : Heap} {mg : Str → Option Value} (X : K.In h) (G : h.Ns mainGlobals mg) (x : Str) (a : PySem.W.nsIn K mainGlobals x = some none) : mg x = none := PySem.W.mg_none_of X G a
theorem intAt {K : PySem.W.Frag} {h : Heap} {mg : Str → Option Value} (X : K.In h) (G : h.Ns mainGlobals mg) (x : Str) {i : Int} {t : Tok} (a : PySem.W.nsIn K mainGlobals x = some (some (.int i t))) : ∃ t, mg x = some (.int i t) := ⟨t, PySem.W.mg_of X G a⟩
theorem strAt {K : PySem.W.Frag} {h : Heap} {mg : Str → Option Value} (X : K.In h) (G : h.Ns mainGlobals mg) (x : Str) {i : Str} {t : Tok} (a : PySem.W.nsIn K mainGlobals x = some (some (.str i t))) : ∃ t, mg x = some (.str i t) := ⟨t, PySem.W.mg_of X G a⟩
/-- law's promise: a list of at most 63 ints is handed in, True comes out -/
def spLaw (K : PySem.W.Frag) : Sp := fun vs H Q _ => ∃ (a : Addr) (ns : List Int), vs = [.ref a] ∧ SqL K H a (ns.map V.int) ∧ ns.length ≤ 63 ∧ ∀ H', Q (.bl true) H'
theorem law_end {l : PySem.W.OpenLaw} {q : Program} {loose : List Str} {XP : (Str → Option Value) → Heap → Prop} {YP : World → Heap → Prop} {d : DefRec} {K : Params → PySem.W.Frag} {st : Stmt} {N : List Str} {k : Nat} {s : CS} {x : Str}
    (hn : l.most = some 63) (hdf : d.params.defaults = []) (hr : Room (k + 1) callerA) (hY : ∀ (w : World) (h : Heap), YP w h → (K w.params).In h) (S : FnScope N [x] (defScope st))
    (hlaw : ∀ ns : List Int, ns.length ≤ 63 → fnD 1 N.length s [.z ns] = some (.d (.b true)))
    (F : ∀ (w : World) (mg : Str → Option Value) (fa : Addr) (h : Heap), (K w.params).In h → h.Ns mainGlobals mg → mg d.name = some (.ref fa) →
      ∃ (CA : EvC) (fd : FuncData), Fun (K w.params) "law" "law" st fa fd ∧ (∀ (s : Shared) (u : Value), BindsTo s fd ⟨[u], []⟩ [(x, u)]) ∧
        ∀ base : Heap, (K w.params).In base → base.Ns mainGlobals mg → Body l.prog w (K w.params) mg base CA k "law" st N s) :
    PySem.W.WalkO q loose XP YP l.row.toRowW d [] (fun f vs => PySem.call f vs) := by
  refine L2.walk_of (n := 63) (k := k + 1) (x := x) (CX := fun w => L2.CX l.prog w) (sp := fun w => spLaw (K w.params)) hn (by decide) hdf hr hY (fun w mg fa h KX G hmg => ?_)
    (fun w H a ns hl _ hS => ⟨a, ns, rfl, hS, hl, fun _ => rfl⟩) fun w H s e s' z => ?_
  · obtain ⟨CA, fd, hF, hb, hB⟩ := F w mg fa h KX G hmg
    refine ⟨fd, hb, fun base X1 G1 => ((hB base X1 G1).fn hF S).imp fun vs H Q E hh => ?_⟩
    obtain ⟨a, ns, rfl, hS, hl, k⟩ := hh
    refine ⟨H, [.z ns], .d (.b true), Same.refl H, .cons (.z ns hS) .nil, hlaw ns hl, fun v F' H' g ok => ?_, fun c e => by cases e⟩
    rw [ok.va.b]
    exact k H'
  · obtain ⟨_, _, _, _, _, _, _, _, _, _, _, _, z⟩ := z
    exact z
end DD
/-! how what a def gives is reckoned: rows for simp -/
namespace DD
open PySem PySem.Spec L2
section
variable {f g h : CF} {s t : CS} {ρ ρ' : Sl} {c : Err} {x y : PV} {xs ys : List PV} {r : ER} {i j : Nat} {k : Bool}
/-! ### statements -/
def sq (o : Option Fl) (g : CS) : Option Fl := match o with
  | some (.nx ρ) => g ρ
  | o => o
@[simp] theorem sq_nx : sq (some (.nx ρ)) s = s ρ := rfl
@[simp] theorem sq_rt : sq (some (.rt r)) s = some (.rt r) := rfl
@[simp] theorem sq_bk : sq (some (.bk ρ)) s = some (.bk ρ) := rfl
@[simp] theorem sq_ct : sq (some (.ct ρ)) s = some (.ct ρ) := rfl
@[simp] theorem sq_ex : sq (some (.ex c)) s = some (.ex c) := rfl
@[simp] theorem sq_no : sq none s = none := rfl
@[simp] theorem cSeq_ap : cSeq s t ρ = sq (s ρ) t := rfl
@[simp] theorem cNext_ap : cNext ρ = some (.nx ρ) := rfl
@[simp] theorem cNever_ap : cNever ρ = none := rfl
@[simp] theorem cBrk_ap : cBrk ρ = some (.bk ρ) := rfl
@[simp] theorem cCnt_ap : cCnt ρ = some (.ct ρ) := rfl
@[simp] theorem cRaise_ap : cRaise c ρ = some (.ex c) := rfl
@[simp] theorem cRetN_ap : cRetN ρ = some (.rt (.d .n)) := rfl
section
variable {q : PV → Option Fl}
@[simp] theorem lS_d : lS q (some (.d x)) = q x := rfl
@[simp] theorem lS_f : lS q (some (.f xs)) = q (.l xs) := rfl
@[simp] theorem lS_e : lS q (some (.e c)) = some (.ex c) := rfl
@[simp] theorem lS_m : lS q (some (.m xs)) = none := rfl
@[simp] theorem lS_n : lS q none = none := rfl
end
@[simp] theorem cAsg_ap : cAsg i f ρ = lS (fun x => some (.nx (ρ.set i (.d x)))) (f ρ) := rfl
def asM (i : Nat) (ρ : Sl) : Option ER → Option Fl
  | some (.f xs) => some (.nx (ρ.set i (.m xs)))
  | some (.e c) => some (.ex c)
  | _ => none
@[simp] theorem asM_f : asM i ρ (some (.f xs)) = some (.nx (ρ.set i (.m xs))) := rfl
@[simp] theorem asM_e : asM i ρ (some (.e c)) = some (.ex c) := rfl
@[simp] theorem cAsgM_ap : cAsgM i f ρ = asM i ρ (f ρ) := rfl
def dr (ρ : Sl) : Option ER → Option Fl
  | some (.e c) => some (.ex c)
  | some _ => some (.nx ρ)
  | none => none
@[simp] theorem dr_d : dr ρ (some (.d x)) = some (.nx ρ) := rfl
@[simp] theorem dr_f : dr ρ (some (.f xs)) = some (.nx ρ) := rfl
@[simp] theorem dr_e : dr ρ (some (.e c)) = some (.ex c) := rfl
@[simp] theorem dr_n : dr ρ none = none := rfl
@[simp] theorem cDrop_ap : cDrop f ρ = dr ρ (f ρ) := rfl
def rtn : Option ER → Option Fl
  | some (.d x) => some (.rt (.d x))
  | some (.f xs) => some (.rt (.f xs))
  | some (.e c) => some (.ex c)
  | _ => none
@[simp] theorem rtn_d : rtn (some (.d x)) = some (.rt (.d x)) := rfl
@[simp] theorem rtn_f : rtn (some (.f xs)) = some (.rt (.f xs)) := rfl
@[simp] theorem rtn_e : rtn (some (.e c)) = some (.ex c) := rfl
@[simp] theorem rtn_n : rtn none = none := rfl
@[simp] theorem cRet_ap : cRet f ρ = rtn (f ρ) := rfl
def rtV : Option Sl1 → Option Fl
  | some (.d x) => some (.rt (.d x))
  | some (.m xs) => some (.rt (.f xs))
  | _ => none
@[simp] theorem rtV_d : rtV (some (.d x)) = some (.rt (.d x)) := rfl
@[simp] theorem rtV_m : rtV (some (.m xs)) = some (.rt (.f xs)) := rfl
@[simp] theorem cRetV_ap : cRetV i ρ = rtV ρ[i]? := rfl
/-- a test, then one of two -/
def br (o : Option ER) (s t : CS) (ρ : Sl) : Option Fl := match o with
  | some (.d (.b true)) => s ρ
  | some (.d (.b false)) => t ρ
  | some (.e c) => some (.ex c)
  | _ => none
@[simp] theorem br_t : br (some (.d (.b true))) s t ρ = s ρ := rfl
@[simp] theorem br_f : br (some (.d (.b false))) s t ρ = t ρ := rfl
@[simp] theorem br_e : br (some (.e c)) s t ρ = some (.ex c) := rfl
@[simp] theorem br_n : br none s t ρ = none := rfl
@[simp] theorem cIf_ap : cIf f s t ρ = br (f ρ) s t ρ := rfl
theorem br_b : br (some (.d (.b k))) s t ρ = if k = true then s ρ else t ρ := by cases k <;> rfl
/-! a slot's list -/
@[simp] theorem cApp_ap : cApp i f ρ = match ρ[i]? with
  | some (.m xs) => lS (fun y => if xs.length < big then some (.nx (ρ.set i (.m (xs ++ [y])))) else none) (f ρ)
  | _ => none := rfl
@[simp] theorem cExt_ap : cExt i f ρ = match ρ[i]? with
  | some (.m xs) => lS (fun y => match y with | .l ys => if xs.length + ys.length ≤ big then some (.nx (ρ.set i (.m (xs ++ ys)))) else none | _ => none) (f ρ)
  | _ => none := rfl
@[simp] theorem cIns_ap : cIns i g f ρ = match ρ[i]? with
  | some (.m xs) => (match g ρ with
    | some (.d (.i k)) => lS (fun y => if xs.length < big ∧ 0 ≤ k ∧ k.natAbs < lim then some (.nx (ρ.set i (.m (xs.take k.toNat ++ [y] ++ xs.drop k.toNat)))) else none) (f ρ)
    | some (.e c) => some (.ex c)
    | _ => none)
  | _ => none := rfl
@[simp] theorem cRev_ap : cRev i ρ = match ρ[i]? with
  | some (.m xs) => some (.nx (ρ.set i (.m xs.reverse)))
  | _ => none := rfl
def fz (i : Nat) (s : CS) (ρ : Sl) : Option Sl1 → Option Fl
  | some (.m xs) => s (ρ.set i (.d (.l xs)))
  | some (.d _) => s ρ
  | _ => none
@[simp] theorem fz_m : fz i s ρ (some (.m xs)) = s (ρ.set i (.d (.l xs))) := rfl
@[simp] theorem fz_d : fz i s ρ (some (.d x)) = s ρ := rfl
@[simp] theorem cFrz_ap : cFrz i s ρ = fz i s ρ ρ[i]? := rfl
/-! loops -/
def fr (tg : CT) (b : CS) (ρ : Sl) : Option ER → Option Fl
  | some (.f xs) => forGo tg b xs ρ
  | some (.e c) => some (.ex c)
  | _ => none
@[simp] theorem fr_f {tg : CT} : fr tg s ρ (some (.f xs)) = forGo tg s xs ρ := rfl
@[simp] theorem cFor_ap {it : CI} {tg : CT} : cFor it tg s ρ = fr tg s ρ (it (fun xs => some (.f xs)) ρ) := rfl
/-- how a turn ends, and the turns behind it -/
def tn (o : Option Fl) (k : Sl → Option Fl) : Option Fl := match o with
  | some (.nx ρ) => k ρ
  | some (.ct ρ) => k ρ
  | some (.bk ρ) => some (.nx ρ)
  | o => o
section
variable {k : Sl → Option Fl}
@[simp] theorem tn_nx : tn (some (.nx ρ)) k = k ρ := rfl
@[simp] theorem tn_ct : tn (some (.ct ρ)) k = k ρ := rfl
@[simp] theorem tn_bk : tn (some (.bk ρ)) k = some (.nx ρ) := rfl
@[simp] theorem tn_rt : tn (some (.rt r)) k = some (.rt r) := rfl
@[simp] theorem tn_ex : tn (some (.ex c)) k = some (.ex c) := rfl
@[simp] theorem tn_no : tn none k = none := rfl
end
@[simp] theorem forGo_nil {tg : CT} : forGo tg s [] ρ = some (.nx ρ) := rfl
theorem forGo_cons {tg : CT} : forGo tg s (x :: xs) ρ = match tg x ρ with
  | none => none
  | some ρ' => tn (s ρ') (forGo tg s xs) := by
  unfold forGo
  cases tg x ρ with
  | none => rfl
  | some ρ' =>
    dsimp only
    cases s ρ' with
    | none => rfl
    | some o => cases o <;> first | rfl | (dsimp only [tn]; cases xs <;> rfl)
@[simp] theorem tgN_ap : tgN i x ρ = some (ρ.set i (.d x)) := rfl
@[simp] theorem tg2_ap : tg2 i j (.t [x, y]) ρ = some ((ρ.set i (.d x)).set j (.d y)) := rfl
@[simp] theorem cWh_ap {n : Nat} : cWh n f s ρ = whGo f s n ρ := rfl
def wh (o : Option ER) (s : CS) (k : Sl → Option Fl) (ρ : Sl) : Option Fl := match o with
  | some (.d (.b false)) => some (.nx ρ)
  | some (.d (.b true)) => tn (s ρ) k
  | some (.e c) => some (.ex c)
  | _ => none
section
variable {k : Sl → Option Fl}
@[simp] theorem wh_t : wh (some (.d (.b true))) s k ρ = tn (s ρ) k := rfl
@[simp] theorem wh_f : wh (some (.d (.b false))) s k ρ = some (.nx ρ) := rfl
end
theorem whGo_succ {n : Nat} : whGo f s (n + 1) ρ = wh (f ρ) s (whGo f s n) ρ := by
  conv => lhs; unfold whGo
  unfold wh
  cases f ρ with
  | none => rfl
  | some r =>
    cases r with
    | d x =>
      cases x with
      | b k =>
        cases k with
        | false => rfl
        | true =>
          dsimp only
          cases s ρ with
          | none => rfl
          | some o => cases o <;> rfl
      | _ => rfl
    | _ => rfl

/-! ### expressions -/
@[simp] theorem cV_ap : cV i ρ = match ρ[i]? with
  | some (.d x) => some (.d x)
  | some (.m xs) => some (.m xs)
  | _ => none := rfl
@[simp] theorem cK_ap : cK x ρ = some (.d x) := rfl
@[simp] theorem c2_ap {q : PV → PV → Option ER} : c2 q f g ρ = e1 (fun x => e1 (q x) (g ρ)) (f ρ) := rfl
@[simp] theorem c1_ap {q : PV → Option ER} : c1 q f ρ = e1 q (f ρ) := rfl
def nt : Option ER → Option ER
  | some (.d (.b k)) => some (.d (.b !k))
  | some (.e c) => some (.e c)
  | _ => none
@[simp] theorem nt_b : nt (some (.d (.b k))) = some (.d (.b !k)) := rfl
@[simp] theorem nt_e : nt (some (.e c)) = some (.e c) := rfl
@[simp] theorem cNot_ap : cNot f ρ = nt (f ρ) := rfl
def an (o : Option ER) (g : CF) (ρ : Sl) : Option ER := match o with
  | some (.d (.b true)) => g ρ
  | some (.d (.b false)) => some (.d (.b false))
  | some (.e c) => some (.e c)
  | _ => none
@[simp] theorem an_t : an (some (.d (.b true))) g ρ = g ρ := rfl
@[simp] theorem an_f : an (some (.d (.b false))) g ρ = some (.d (.b false)) := rfl
@[simp] theorem an_e : an (some (.e c)) g ρ = some (.e c) := rfl
@[simp] theorem cAnd_ap : cAnd f g ρ = an (f ρ) g ρ := rfl
def orr (o : Option ER) (g : CF) (ρ : Sl) : Option ER := match o with
  | some (.d (.b true)) => some (.d (.b true))
  | some (.d (.b false)) => g ρ
  | some (.e c) => some (.e c)
  | _ => none
@[simp] theorem orr_t : orr (some (.d (.b true))) g ρ = some (.d (.b true)) := rfl
@[simp] theorem orr_f : orr (some (.d (.b false))) g ρ = g ρ := rfl
@[simp] theorem orr_e : orr (some (.e c)) g ρ = some (.e c) := rfl
@[simp] theorem cOr_ap : cOr f g ρ = orr (f ρ) g ρ := rfl
theorem an_b (h : ∃ q, g ρ = some (.d (.b q))) : an (some (.d (.b k))) g ρ = if k = true then g ρ else some (.d (.b false)) := by cases k <;> rfl
/-- a chain's second half -/
def chn (o : Option ER) (q : PV → Option ER) (h : CF) (ρ : Sl) : Option ER := match o with
  | some (.d (.b true)) => e1 q (h ρ)
  | some (.d (.b false)) => some (.d (.b false))
  | _ => none
section
variable {q : PV → Option ER}
@[simp] theorem chn_t : chn (some (.d (.b true))) q h ρ = e1 q (h ρ) := rfl
@[simp] theorem chn_f : chn (some (.d (.b false))) q h ρ = some (.d (.b false)) := rfl
end
@[simp] theorem cChain_ap {q q' : PV → PV → Option ER} : cChain q q' f g h ρ = e1 (fun x => e1 (fun y => chn (q x y) (q' y) h ρ) (g ρ)) (f ρ) := rfl
@[simp] theorem cTup_ap {fs : List CF} : cTup fs ρ = cA (fun xs => if xs.length ≤ big then some (.d (.t xs)) else none) fs ρ := rfl
@[simp] theorem cLst_ap {fs : List CF} : cLst fs ρ = cA (fun xs => if xs.length ≤ big then some (.f xs) else none) fs ρ := rfl
@[simp] theorem cCall_ap {φ : List PV → Option ER} {fs : List CF} : cCall φ fs ρ = cA φ fs ρ := rfl
@[simp] theorem cA_nil {q : List PV → Option ER} : cA q [] ρ = q [] := rfl
@[simp] theorem cA_cons {q : List PV → Option ER} {fs : List CF} : cA q (f :: fs) ρ = eS (fun x => cA (fun xs => q (x :: xs)) fs ρ) (f ρ) := rfl
@[simp] theorem cSl_ap {lo hi : Option CF} : cSl f lo hi ρ = e1 (fun x => cP (fun a => cP (fun b => gCut x a b) hi ρ) lo ρ) (f ρ) := rfl
section
variable {q : Option Int → Option ER} {n : Int}
@[simp] theorem cP_none : cP q none ρ = q none := rfl
def pI (q : Option Int → Option ER) : PV → Option ER
  | .i k => q (some k)
  | _ => none
@[simp] theorem pI_i : pI q (.i n) = q (some n) := rfl
@[simp] theorem cP_some : cP q (some f) ρ = e1 (pI q) (f ρ) := rfl
end
@[simp] theorem cLc_ap {vs : List Nat} {it : CI} {tg : CT} : cLc vs it tg g f ρ = it (fun xs => if xs.length ≤ big then (lcGo tg g f (wipeS ρ vs) xs []).map .f else none) ρ := rfl
@[simp] theorem wipeS_nil : wipeS ρ [] = ρ := rfl
@[simp] theorem wipeS_cons {v : Nat} {vs : List Nat} : wipeS ρ (v :: vs) = (wipeS ρ vs).set v .u := rfl
@[simp] theorem cYes_ap : cYes ρ = some (.d (.b true)) := rfl
section
variable {q : List PV → Option ER} {n m : Int} {cs : List Nat}
def uL (q : List PV → Option ER) : PV → Option ER
  | .l xs => q xs
  | _ => none
def uT (q : List PV → Option ER) : PV → Option ER
  | .t xs => q xs
  | _ => none
def uS (q : List PV → Option ER) : PV → Option ER
  | .s cs => q (cs.map fun c => .s [c])
  | _ => none
@[simp] theorem uL_l : uL q (.l xs) = q xs := rfl
@[simp] theorem uT_t : uT q (.t xs) = q xs := rfl
@[simp] theorem uS_s : uS q (.s cs) = q (cs.map fun c => .s [c]) := rfl
@[simp] theorem iL_ap : iL f q ρ = eS (uL q) (f ρ) := rfl
@[simp] theorem iT_ap : iT f q ρ = eS (uT q) (f ρ) := rfl
@[simp] theorem iS_ap : iS f q ρ = eS (uS q) (f ρ) := rfl
def uR1 (q : List PV → Option ER) : PV → Option ER
  | .i n => if n.natAbs < lim then q (upTo 0 n.toNat) else none
  | _ => none
def uR2 (q : List PV → Option ER) : PV → PV → Option ER
  | .i a, .i b => if a.natAbs < lim ∧ b.natAbs < lim then q (upTo a (b - a).toNat) else none
  | _, _ => none
@[simp] theorem uR1_i : uR1 q (.i n) = if n.natAbs < lim then q (upTo 0 n.toNat) else none := rfl
@[simp] theorem uR2_i : uR2 q (.i n) (.i m) = if n.natAbs < lim ∧ m.natAbs < lim then q (upTo n (m - n).toNat) else none := rfl
@[simp] theorem iR1_ap : iR1 f q ρ = e1 (uR1 q) (f ρ) := rfl
@[simp] theorem iR2_ap : iR2 f g q ρ = e1 (fun x => e1 (uR2 q x) (g ρ)) (f ρ) := rfl
end
/-! operators -/
section
variable {n m : Int} {cs ds : List Nat} {ns : List Int}
@[simp] theorem gAdd_i : gAdd (.i n) (.i m) = some (.d (.i (n + m))) := rfl
@[simp] theorem gAdd_s : gAdd (.s cs) (.s ds) = if cs.length + ds.length ≤ big then some (.d (.s (cs ++ ds))) else none := rfl
@[simp] theorem gAdd_l : gAdd (.l xs) (.l ys) = if xs.length + ys.length ≤ big then some (.f (xs ++ ys)) else none := rfl
@[simp] theorem gSub_i : gSub (.i n) (.i m) = some (.d (.i (n - m))) := rfl
def small (n : Int) : Prop := -18446744073709551616 < n ∧ n < 18446744073709551616
theorem gMul_i : gMul (.i n) (.i m) = if CMulN n m then some (.d (.i (n * m))) else none := rfl
theorem gMul_l (h : -18446744073709551616 < n ∧ n < 18446744073709551616) : gMul (.i n) (.i m) = some (.d (.i (n * m))) := by
  rw [gMul_i, if_pos]
  exact .inl (by omega)
theorem gMul_r (h : -18446744073709551616 < m ∧ m < 18446744073709551616) : gMul (.i n) (.i m) = some (.d (.i (n * m))) := by
  rw [gMul_i, if_pos]
  exact .inr (by omega)
@[simp] theorem gMod_i : gMod (.i n) (.i m) = if 0 < m then some (.d (.i (n % m))) else none := rfl
@[simp] theorem gDiv_i : gDiv (.i n) (.i m) = if 0 < m ∧ m < 1073741824 then some (.d (.i (n / m))) else none := rfl
theorem gPow_i : gPow (.i n) (.i m) = if CPow n m then some (.d (.i (n ^ m.toNat))) else none := rfl
@[simp] theorem gLt_i : gLt (.i n) (.i m) = some (.d (.b (decide (n < m)))) := rfl
@[simp] theorem gLe_i : gLe (.i n) (.i m) = some (.d (.b (decide (n ≤ m)))) := rfl
@[simp] theorem gGt_i : gGt (.i n) (.i m) = some (.d (.b (decide (m < n)))) := rfl
@[simp] theorem gGe_i : gGe (.i n) (.i m) = some (.d (.b (decide (m ≤ n)))) := rfl
@[simp] theorem gNeg_i : gNeg (.i n) = some (.d (.i (-n))) := rfl
theorem gEq_l (h : dep x ≤ 60) (h' : dep y ≤ 60) : gEq x y = some (.d (.b (eqv x y))) := by unfold gEq; rw [if_pos ⟨h, h'⟩]
theorem gNe_l (h : dep x ≤ 60) (h' : dep y ≤ 60) : gNe x y = some (.d (.b (!eqv x y))) := by unfold gNe; rw [if_pos ⟨h, h'⟩]
theorem deps_map {α : Type} {m : α → PV} {k : Nat} (h : ∀ a, dep (m a) ≤ k) : ∀ L : List α, deps (L.map m) ≤ k
  | [] => by simp [deps]
  | a :: L => by
    have := h a
    have := deps_map h L
    simp only [List.map_cons, deps]
    omega
theorem deps_le {k : Nat} : ∀ {xs : List PV}, (∀ x ∈ xs, dep x ≤ k) → deps xs ≤ k
  | [], _ => by simp [deps]
  | x :: xs, h => by
    have := h x (by simp)
    have := deps_le (xs := xs) fun y hy => h y (by simp [hy])
    simp only [deps]
    omega
@[simp] theorem dep_n : dep .n = 0 := by simp [dep]
@[simp] theorem dep_b : dep (.b k) = 0 := by simp [dep]
@[simp] theorem dep_i : dep (.i n) = 0 := by simp [dep]
@[simp] theorem dep_s : dep (.s cs) = 0 := by simp [dep]
@[simp] theorem dep_l : dep (.l xs) = deps xs + 1 := by simp [dep]
@[simp] theorem dep_t : dep (.t xs) = deps xs + 1 := by simp [dep]
@[simp] theorem deps_nil : deps [] = 0 := by simp [deps]
@[simp] theorem deps_cons : deps (x :: xs) = max (dep x) (deps xs) := by simp [deps]
@[simp] theorem gEq_ii : gEq (.i n) (.i m) = some (.d (.b (n == m))) := by rw [gEq_l (by simp) (by simp)]; simp [eqv]
@[simp] theorem gNe_ii : gNe (.i n) (.i m) = some (.d (.b (!(n == m)))) := by rw [gNe_l (by simp) (by simp)]; simp [eqv]
@[simp] theorem gEq_ss : gEq (.s cs) (.s ds) = some (.d (.b (cs == ds))) := by rw [gEq_l (by simp) (by simp)]; simp [eqv]
@[simp] theorem gNe_ss : gNe (.s cs) (.s ds) = some (.d (.b (!(cs == ds)))) := by rw [gNe_l (by simp) (by simp)]; simp [eqv]
theorem gEq_l0 (h : deps xs ≤ 50) : gEq (.l xs) (.l []) = some (.d (.b xs.isEmpty)) := by rw [gEq_l (by simp; omega) (by simp)]; cases xs <;> simp [eqv, eqvs]
theorem gNe_l0 (h : deps xs ≤ 50) : gNe (.l xs) (.l []) = some (.d (.b (!xs.isEmpty))) := by rw [gNe_l (by simp; omega) (by simp)]; cases xs <;> simp [eqv, eqvs]
@[simp] theorem gEq_z0 : gEq (.z ns) (.l []) = some (.d (.b ns.isEmpty)) := by rw [gEq_l (by simp [dep, ints_depth]) (by simp)]; cases ns <;> simp [eqv, toPys, PyData.eqvAll]
@[simp] theorem gIsN_n : gIsN .n .n = some (.d (.b true)) := rfl
@[simp] theorem gIsN_i : gIsN (.i n) .n = some (.d (.b false)) := rfl
@[simp] theorem gIsN_l : gIsN (.l xs) .n = some (.d (.b false)) := rfl
@[simp] theorem gIsN_t : gIsN (.t xs) .n = some (.d (.b false)) := rfl
@[simp] theorem gIsN_s : gIsN (.s cs) .n = some (.d (.b false)) := rfl
@[simp] theorem gNoN_n : gNoN .n .n = some (.d (.b false)) := rfl
@[simp] theorem gNoN_i : gNoN (.i n) .n = some (.d (.b true)) := rfl
@[simp] theorem gNoN_l : gNoN (.l xs) .n = some (.d (.b true)) := rfl
@[simp] theorem gNoN_t : gNoN (.t xs) .n = some (.d (.b true)) := rfl
@[simp] theorem gNoN_s : gNoN (.s cs) .n = some (.d (.b true)) := rfl
@[simp] theorem gIdx_l : gIdx (.l xs) (.i n) = (L2.atI xs n).map .d := rfl
@[simp] theorem gIdx_t : gIdx (.t xs) (.i n) = (L2.atI xs n).map .d := rfl
@[simp] theorem gIdx_s : gIdx (.s cs) (.i n) = if cs.length ≤ big then (L2.atI cs n).map (fun c => .d (.s [c])) else none := rfl
@[simp] theorem gIdx_z : gIdx (.z ns) (.i n) = (L2.atI ns n).map (fun n => .d (.i n)) := rfl
theorem atI_nn {α : Type} {l : List α} (h : 0 ≤ n) : L2.atI l n = l[n.toNat]? := by
  unfold L2.atI L2.ixN
  rw [if_pos h]
  by_cases hl : n < l.length
  · rw [if_pos hl]; rfl
  · rw [if_neg hl, List.getElem?_eq_none_iff.mpr (by omega)]; rfl
@[simp] theorem atI_0 {α : Type} {l : List α} : L2.atI l 0 = l[0]? := atI_nn (by decide)
@[simp] theorem atI_1 {α : Type} {l : List α} : L2.atI l 1 = l[1]? := atI_nn (by decide)
@[simp] theorem atI_2 {α : Type} {l : List α} : L2.atI l 2 = l[2]? := atI_nn (by decide)
theorem atI_m1 {α : Type} {l : List α} : L2.atI l (-1) = l.getLast? := by
  unfold L2.atI L2.ixN
  rw [if_neg (by decide)]
  cases l with
  | nil => rfl
  | cons a r =>
    rw [if_pos (by simp; omega), List.getLast?_eq_getElem?]
    show (a :: r)[((-1 : Int) + ((a :: r).length : Int)).toNat]? = _
    congr 1
    simp
    omega
@[simp] theorem atI_last {α : Type} {l : List α} : L2.atI l (-1) = l.getLast? := atI_m1
@[simp] theorem gCut_s {lo hi : Option Int} : gCut (.s cs) lo hi = if cs.length ≤ big then some (.d (.s (cutP cs lo hi))) else none := rfl
@[simp] theorem gCut_l {lo hi : Option Int} : gCut (.l xs) lo hi = some (.f (cutP xs lo hi)) := rfl
theorem gCut_t {lo hi : Option Int} : gCut (.t xs) lo hi = if HT.sIx xs.length 0 lo = 0 ∧ HT.sIx xs.length xs.length hi = xs.length then none else some (.d (.t (cutP xs lo hi))) := rfl
theorem sIx_nn {k d : Nat} (h : 0 ≤ n) : HT.sIx k d (some n) = min n.toNat k := by
  have := HT.sIx_nat k d n.toNat
  rwa [Int.toNat_of_nonneg h] at this
theorem cutP_nn {α : Type} {l : List α} (h : 0 ≤ n) (h' : 0 ≤ m) : cutP l (some n) (some m) = (l.drop n.toNat).take (m.toNat - n.toNat) := by
  unfold cutP
  rw [sIx_nn h, sIx_nn h']
  by_cases hn : n.toNat ≤ l.length
  · rw [Nat.min_eq_left hn]
    by_cases hm : m.toNat ≤ l.length
    · rw [Nat.min_eq_left hm]
    · rw [Nat.min_eq_right (by omega), List.take_of_length_le (by simp), List.take_of_length_le (by simp; omega)]
  · rw [List.drop_of_length_le (by omega), List.drop_of_length_le (by omega)]; simp
theorem cutP_n0 {α : Type} {l : List α} (h : 0 ≤ n) : cutP l (some n) none = l.drop n.toNat := by
  unfold cutP
  rw [sIx_nn h, HT.sIx_none]
  by_cases hn : n.toNat ≤ l.length
  · rw [Nat.min_eq_left hn, List.take_of_length_le (by simp)]
  · rw [List.drop_of_length_le (by omega), List.drop_of_length_le (by omega)]; simp
theorem cutP_0n {α : Type} {l : List α} (h : 0 ≤ n) : cutP l none (some n) = l.take n.toNat := by
  unfold cutP
  rw [sIx_nn h, HT.sIx_none, List.drop_zero, Nat.sub_zero]
  by_cases hn : n.toNat ≤ l.length
  · rw [Nat.min_eq_left hn]
  · rw [Nat.min_eq_right (by omega), List.take_of_length_le (by omega), List.take_of_length_le (by omega)]
@[simp] theorem gLen_l : gLen (.l xs) = some (.d (.i xs.length)) := rfl
@[simp] theorem gLen_t : gLen (.t xs) = some (.d (.i xs.length)) := rfl
@[simp] theorem gLen_z : gLen (.z ns) = some (.d (.i ns.length)) := rfl
@[simp] theorem gLen_s : gLen (.s cs) = if cs.length ≤ big then some (.d (.i cs.length)) else none := rfl
@[simp] theorem gOrd_s {c : Nat} : gOrd (.s [c]) = some (.d (.i c)) := rfl
@[simp] theorem gInt_i : gInt (.i n) = some (.d (.i n)) := rfl
@[simp] theorem gInt_b : gInt (.b k) = some (.d (.i (if k then 1 else 0))) := rfl
@[simp] theorem gMin2_i : gMin2 (.i n) (.i m) = some (.d (.i (if m < n then m else n))) := rfl
@[simp] theorem gMax2_i : gMax2 (.i n) (.i m) = some (.d (.i (if m > n then m else n))) := rfl
@[simp] theorem gSum_l : gSum (.l xs) = (intsOf xs).map (fun ns => .d (.i ns.sum)) := rfl
@[simp] theorem gAll_l : gAll (.l xs) = (blsOf xs).map (fun bs => .d (.b (bs.all id))) := rfl
@[simp] theorem gList_l : gList (.l xs) = some (.f xs) := rfl
@[simp] theorem gList_t : gList (.t xs) = some (.f xs) := rfl
end
/-! isinstance -/
theorem kt7 : kitB "dict" "int" = some false := by decide +kernel
theorem kt1 : kitB "int" "int" = some true := by decide +kernel
theorem kt2 : kitB "bool" "int" = some true := by decide +kernel
theorem kt3 : kitB "str" "int" = some false := by decide +kernel
theorem kt4 : kitB "tuple" "int" = some false := by decide +kernel
theorem kt5 : kitB "list" "int" = some false := by decide +kernel
theorem kt6 : kitB "NoneType" "int" = some false := by decide +kernel
theorem kb7 : kitB "dict" "bool" = some false := by decide +kernel
theorem kb1 : kitB "int" "bool" = some false := by decide +kernel
theorem kb2 : kitB "bool" "bool" = some true := by decide +kernel
theorem kb3 : kitB "str" "bool" = some false := by decide +kernel
theorem kb4 : kitB "tuple" "bool" = some false := by decide +kernel
theorem kb5 : kitB "list" "bool" = some false := by decide +kernel
theorem kb6 : kitB "NoneType" "bool" = some false := by decide +kernel
theorem ks7 : kitB "dict" "str" = some false := by decide +kernel
theorem ks1 : kitB "int" "str" = some false := by decide +kernel
theorem ks2 : kitB "bool" "str" = some false := by decide +kernel
theorem ks3 : kitB "str" "str" = some true := by decide +kernel
theorem ks4 : kitB "tuple" "str" = some false := by decide +kernel
theorem ks5 : kitB "list" "str" = some false := by decide +kernel
theorem ks6 : kitB "NoneType" "str" = some false := by decide +kernel
theorem ku7 : kitB "dict" "tuple" = some false := by decide +kernel
theorem ku1 : kitB "int" "tuple" = some false := by decide +kernel
theorem ku2 : kitB "bool" "tuple" = some false := by decide +kernel
theorem ku3 : kitB "str" "tuple" = some false := by decide +kernel
theorem ku4 : kitB "tuple" "tuple" = some true := by decide +kernel
theorem ku5 : kitB "list" "tuple" = some false := by decide +kernel
theorem ku6 : kitB "NoneType" "tuple" = some false := by decide +kernel
theorem kl7 : kitB "dict" "list" = some false := by decide +kernel
theorem kl1 : kitB "int" "list" = some false := by decide +kernel
theorem kl2 : kitB "bool" "list" = some false := by decide +kernel
theorem kl3 : kitB "str" "list" = some false := by decide +kernel
theorem kl4 : kitB "tuple" "list" = some false := by decide +kernel
theorem kl5 : kitB "list" "list" = some true := by decide +kernel
theorem kl6 : kitB "NoneType" "list" = some false := by decide +kernel
def isI : PV → Bool | .i _ => true | .b _ => true | _ => false
def isB : PV → Bool | .b _ => true | _ => false
def isS : PV → Bool | .s _ => true | _ => false
def isU : PV → Bool | .t _ => true | _ => false
def isL : PV → Bool | .l _ => true | .z _ => true | _ => false
@[simp] theorem gIs_int : gIs "int" x = some (.d (.b (isI x))) := by cases x <;> simp [gIs, tyName, isI, kt1, kt2, kt3, kt4, kt5, kt6, kt7]
@[simp] theorem gIs_bool : gIs "bool" x = some (.d (.b (isB x))) := by cases x <;> simp [gIs, tyName, isB, kb1, kb2, kb3, kb4, kb5, kb6, kb7]
@[simp] theorem gIs_str : gIs "str" x = some (.d (.b (isS x))) := by cases x <;> simp [gIs, tyName, isS, ks1, ks2, ks3, ks4, ks5, ks6, ks7]
@[simp] theorem gIs_tuple : gIs "tuple" x = some (.d (.b (isU x))) := by cases x <;> simp [gIs, tyName, isU, ku1, ku2, ku3, ku4, ku5, ku6, ku7]
@[simp] theorem gIs_list : gIs "list" x = some (.d (.b (isL x))) := by cases x <;> simp [gIs, tyName, isL, kl1, kl2, kl3, kl4, kl5, kl6, kl7]
/-! defs -/
def fin : Option Fl → Option ER
  | some (.rt r) => some r
  | some (.nx _) => some (.d .n)
  | some (.ex c) => some (.e c)
  | _ => none
@[simp] theorem fin_rt : fin (some (.rt r)) = some r := rfl
@[simp] theorem fin_nx : fin (some (.nx ρ)) = some (.d .n) := rfl
@[simp] theorem fin_ex : fin (some (.ex c)) = some (.e c) := rfl
@[simp] theorem fin_no : fin none = none := rfl
theorem fnD_ap {n m : Nat} (h : xs.length = n) : fnD n m s xs = fin (s (xs.map .d ++ List.replicate (m - n) .u)) := by
  unfold fnD
  rw [if_pos h]
  unfold ini
  rw [h]
  rfl
variable {x1 x2 x3 x4 x5 : PV} {m : Nat}
theorem fnD1 : fnD 1 m s [x1] = fin (s (.d x1 :: List.replicate (m - 1) .u)) := fnD_ap rfl
theorem fnD2 : fnD 2 m s [x1, x2] = fin (s (.d x1 :: .d x2 :: List.replicate (m - 2) .u)) := fnD_ap rfl
theorem fnD3 : fnD 3 m s [x1, x2, x3] = fin (s (.d x1 :: .d x2 :: .d x3 :: List.replicate (m - 3) .u)) := fnD_ap rfl
theorem fnD4 : fnD 4 m s [x1, x2, x3, x4] = fin (s (.d x1 :: .d x2 :: .d x3 :: .d x4 :: List.replicate (m - 4) .u)) := fnD_ap rfl
theorem fnD5 : fnD 5 m s [x1, x2, x3, x4, x5] = fin (s (.d x1 :: .d x2 :: .d x3 :: .d x4 :: .d x5 :: List.replicate (m - 5) .u)) := fnD_ap rfl
@[simp] theorem rep0 : List.replicate 0 Sl1.u = [] := rfl
@[simp] theorem rep1 : List.replicate 1 Sl1.u = [.u] := rfl
@[simp] theorem rep2 : List.replicate 2 Sl1.u = [.u, .u] := rfl
@[simp] theorem rep3 : List.replicate 3 Sl1.u = [.u, .u, .u] := rfl
@[simp] theorem rep4 : List.replicate 4 Sl1.u = [.u, .u, .u, .u] := rfl
@[simp] theorem rep5 : List.replicate 5 Sl1.u = [.u, .u, .u, .u, .u] := rfl
@[simp] theorem rep6 : List.replicate 6 Sl1.u = [.u, .u, .u, .u, .u, .u] := rfl
@[simp] theorem rep7 : List.replicate 7 Sl1.u = [.u, .u, .u, .u, .u, .u, .u] := rfl
@[simp] theorem rep8 : List.replicate 8 Sl1.u = [.u, .u, .u, .u, .u, .u, .u, .u] := rfl
@[simp] theorem rep9 : List.replicate 9 Sl1.u = [.u, .u, .u, .u, .u, .u, .u, .u, .u] := rfl
@[simp] theorem rep10 : List.replicate 10 Sl1.u = [.u, .u, .u, .u, .u, .u, .u, .u, .u, .u] := rfl
@[simp] theorem rep11 : List.replicate 11 Sl1.u = [.u, .u, .u, .u, .u, .u, .u, .u, .u, .u, .u] := rfl
@[simp] theorem rep12 : List.replicate 12 Sl1.u = [.u, .u, .u, .u, .u, .u, .u, .u, .u, .u, .u, .u] := rfl
/-! comprehensions, turn by turn -/
def lcS (o : Option ER) (f : CF) (ρ : Sl) (acc : List PV) (k : List PV → Option (List PV)) : Option (List PV) := match o with
  | some (.d (.b true)) => (match f ρ with
    | some (.d y) => k (acc ++ [y])
    | some (.f ys) => k (acc ++ [.l ys])
    | _ => none)
  | some (.d (.b false)) => k acc
  | _ => none
theorem lcGo_cons {tg : CT} {acc : List PV} : lcGo tg g f ρ (x :: xs) acc = match tg x ρ with
  | none => none
  | some ρ' => lcS (g ρ') f ρ' acc (lcGo tg g f ρ xs) := by
  conv => lhs; unfold lcGo
  cases tg x ρ with
  | none => rfl
  | some ρ' =>
    show _ = lcS (g ρ') f ρ' acc (lcGo tg g f ρ xs)
    unfold lcS
    first
      | rfl
      | (dsimp only; done)
      | (dsimp only
         cases g ρ' with
         | none => rfl
         | some r =>
           cases r with
           | d x =>
             cases x with
             | b k =>
               cases k with
               | false => rfl
               | true =>
                 dsimp only
                 cases f ρ' with
                 | none => rfl
                 | some o => cases o <;> rfl
             | _ => rfl
           | _ => rfl)
@[simp] theorem lcGo_nil {tg : CT} {acc : List PV} : lcGo tg g f ρ [] acc = some acc := rfl
/-- a comprehension over what is worth m of each item -/
theorem lcGo_map {α : Type} {tg : CT} {m : α → PV} {w : α → PV} {L : List α} (htg : ∀ a ∈ L, ∃ ρ', tg (m a) ρ = some ρ' ∧ g ρ' = some (.d (.b true)) ∧ f ρ' = some (.d (w a))) : ∀ acc, lcGo tg g f ρ (L.map m) acc = some (acc ++ L.map w) := by
  induction L with
  | nil => intro acc; simp
  | cons a L ih =>
    intro acc
    obtain ⟨ρ', h1, h2, h3⟩ := htg a (by simp)
    rw [List.map_cons, lcGo_cons, h1]
    simp only [h2, h3, lcS]
    rw [ih (fun b hb => htg b (by simp [hb]))]
    simp
/-- .. with a test -/
theorem lcGo_filter {α : Type} {tg : CT} {m : α → PV} {w : α → PV} {p : α → Bool} {L : List α} (htg : ∀ a ∈ L, ∃ ρ', tg (m a) ρ = some ρ' ∧ g ρ' = some (.d (.b (p a))) ∧ (p a = true → f ρ' = some (.d (w a)))) : ∀ acc, lcGo tg g f ρ (L.map m) acc = some (acc ++ (L.filter p).map w) := by
  induction L with
  | nil => intro acc; simp
  | cons a L ih =>
    intro acc
    obtain ⟨ρ', h1, h2, h3⟩ := htg a (by simp)
    rw [List.map_cons, lcGo_cons, h1]
    have ih' := ih (fun b hb => htg b (by simp [hb]))
    cases hp : p a with
    | true =>
      simp only [h2, hp, h3 hp, lcS]
      rw [ih', List.filter_cons_of_pos hp]
      simp
    | false =>
      simp only [h2, hp, lcS]
      rw [ih', List.filter_cons_of_neg (by simp [hp])]
theorem upTo_map (lo : Int) (n : Nat) : upTo lo n = (List.range n).map fun k => PV.i (lo + (k : Nat)) := rfl
theorem range_split {n k : Nat} {pre post : List Nat} (h : List.range n = pre ++ k :: post) : k = pre.length ∧ pre.length < n := by
  have e1 := congrArg (fun l => l[pre.length]?) h
  have e2 := congrArg List.length h
  simp at e1 e2
  have hlt : pre.length < n := by omega
  rw [List.getElem?_eq_getElem (by simpa using hlt)] at e1
  simp at e1
  omega
/-- a turn comes to its end, and what then holds -/
def GoesTo (o : Option Fl) (P : Sl → Prop) : Prop := match o with
  | some (.nx ρ) => P ρ
  | some (.ct ρ) => P ρ
  | _ => False
@[simp] theorem goesTo_nx {P : Sl → Prop} : GoesTo (some (.nx ρ)) P = P ρ := rfl
@[simp] theorem goesTo_ct {P : Sl → Prop} : GoesTo (some (.ct ρ)) P = P ρ := rfl
def Tu (o : Option Sl) (s : CS) (P : Sl → Prop) : Prop := match o with
  | some ρ => GoesTo (s ρ) P
  | none => False
@[simp] theorem tu_some {P : Sl → Prop} : Tu (some ρ) s P = GoesTo (s ρ) P := rfl
theorem GoesTo.ex {o : Option Fl} {P : Sl → Prop} (h : GoesTo o P) : ∃ ρ', (o = some (.nx ρ') ∨ o = some (.ct ρ')) ∧ P ρ' := by
  unfold GoesTo at h
  split at h
  · exact ⟨_, .inl rfl, h⟩
  · exact ⟨_, .inr rfl, h⟩
  · exact h.elim
/-- a loop whose turns carry a state on -/
theorem forGo_inv {α : Type} {tg : CT} {m : α → PV} {L : List α} (S : List α → Sl → Prop) (h0 : S [] ρ) (hs : ∀ pre a post, L = pre ++ a :: post → ∀ ρ1, S pre ρ1 → Tu (tg (m a) ρ1) s (S (pre ++ [a]))) :
    ∃ ρ', forGo tg s (L.map m) ρ = some (.nx ρ') ∧ S L ρ' := by
  have key : ∀ (post pre : List α) (ρ1 : Sl), L = pre ++ post → S pre ρ1 → ∃ ρ', forGo tg s (post.map m) ρ1 = some (.nx ρ') ∧ S L ρ' := by
    intro post
    induction post with
    | nil => intro pre ρ1 e h; exact ⟨ρ1, rfl, by rw [e, List.append_nil]; exact h⟩
    | cons a post ih =>
      intro pre ρ1 e h
      have h1 := hs pre a post e ρ1 h
      cases ht : tg (m a) ρ1 with
      | none => rw [ht] at h1; exact h1.elim
      | some ρ2 =>
        rw [ht] at h1
        obtain ⟨ρ3, h2, h3⟩ := GoesTo.ex h1
        obtain ⟨ρ', h4, h5⟩ := ih (pre ++ [a]) ρ3 (by rw [e]; simp) h3
        refine ⟨ρ', ?_, h5⟩
        rw [List.map_cons, forGo_cons, ht]
        rcases h2 with h2 | h2 <;> simp only [h2, tn_nx, tn_ct, h4]
  exact key L [] ρ rfl h0
end
end DD
/-! more operators: steps, texts, sums of tuples -/
namespace DD
open PySem PySem.Spec L2
section
variable {K : PySem.W.Frag} {CA : EvC} {W : WX} {te ta tb tc : TE} {tt tu : TT} {f f1 f2 f3 : CF} {H0 F H : Hp} {σ : L2.St} {ρ : Sl} {g : PV → Option ER}
/-! ### range with a step -/
def steps (lo c : Int) (n : Nat) : List PV := (List.range n).map fun k => .i (lo + (k : Nat) * c)
def stepN (a b c : Int) : Nat := if a < b then ((b - a - 1) / c + 1).toNat else 0
def iR3 (f1 f2 f3 : CF) : CI := fun g ρ => e1 (fun x => e1 (fun y => e1 (fun z => match x, y, z with
  | .i a, .i b, .i c => if a.natAbs < 1073741824 ∧ b.natAbs < 1073741824 ∧ 0 < c ∧ c.natAbs < 1073741824 then g (steps a c (stepN a b c)) else none
  | _, _, _ => none) (f3 ρ)) (f2 ρ)) (f1 ρ)
theorem rgC_up {a b c : Int} (ha : a.natAbs < 1073741824) (hb : b.natAbs < 1073741824) (h0 : 0 < c) (hc : c.natAbs < 1073741824) : RgC a b c (stepN a b c) := by
  have hq : a < b → 0 ≤ (b - a - 1) / c ∧ (b - a - 1) / c ≤ b - a - 1 ∧ (b - a - 1) / c * c ≤ b - a - 1 := fun hab => ⟨Int.ediv_nonneg (by omega) (by omega), Int.ediv_le_self _ (by omega), Int.ediv_mul_le _ (by omega)⟩
  have e : Builtin.Range.rangeSize a b c = if a < b then (b - a - 1) / c + 1 else 0 := by
    unfold Builtin.Range.rangeSize
    rw [if_pos (show c > 0 from h0)]
  refine ⟨by omega, hc, ?_, ?_⟩
  · unfold Builtin.Range.small
    rw [e]
    simp only [Builtin.Range.rangeFitsLong, Bool.and_eq_true, Bool.or_eq_true, decide_eq_true_eq, beq_iff_eq, show c > 0 from h0, if_true]
    by_cases hab : a < b
    · obtain ⟨q0, q1, q2⟩ := hq hab
      simp only [hab, if_true]
      generalize (b - a - 1) / c = k at *
      refine ⟨⟨⟨⟨?_, ?_⟩, ?_, ?_⟩, ?_, ?_⟩, .inr ⟨?_, ?_⟩⟩ <;> omega
    · simp only [hab, if_false]
      refine ⟨⟨⟨⟨?_, ?_⟩, ?_, ?_⟩, ?_, ?_⟩, .inl trivial⟩ <;> omega
  · rw [e]
    unfold stepN
    by_cases hab : a < b
    · have := hq hab
      rw [if_pos hab, if_pos hab]; omega
    · rw [if_neg hab, if_neg hab]; rfl
theorem steps_get {lo c : Int} {n i : Nat} {d : PV} (h : (steps lo c n)[i]? = some d) : i < n ∧ d = .i (lo + (i : Nat) * c) := by
  unfold steps at h
  rw [List.getElem?_map] at h
  by_cases hi : i < n
  · rw [List.getElem?_range hi] at h
    cases h
    exact ⟨hi, rfl⟩
  · rw [List.getElem?_eq_none_iff.mpr (by simp; omega)] at h
    cases h
theorem walks_steps (lo c : Int) (n : Nat) : Walks K (Itc lo c n) F H (steps lo c n) := by
  intro i F2 H2 s1 s2
  refine ⟨fun d hd => ?_, fun hn => ?_⟩
  · obtain ⟨hi, rfl⟩ := steps_get hd
    refine ⟨hi, fun x H3 hy => ?_⟩
    obtain ⟨rfl, rfl⟩ := hy
    exact ⟨F2, Gr.refl s2, Dat.i _⟩
  · have := List.getElem?_eq_none_iff.mp hn
    unfold steps at this
    show n ≤ i
    simpa using this
theorem di_r3 (h : DE K CA W ta f1) (h' : DE K CA W tb f2) (h'' : DE K CA W tc f3) : DI K CA W (iRng3 (tCons ta (tCons tb (tCons tc tNil)))) (iR3 f1 f2 f3) := by
  intro H0 F H σ ρ z g R Rp hz he k
  refine h.go Rp hz he fun x v F1 H1 g1 o1 e1 => ?_
  refine h'.go (Rp.up g1) e1 (fun c e F' H' gr => he c e F' H' (g1.trans gr)) fun y w F2 H2 g2 o2 e2 => ?_
  have g12 := g1.trans g2
  refine h''.go (Rp.up g12) e2 (fun c e F' H' gr => he c e F' H' (g12.trans gr)) fun y' w' F3 H3 g3 o3 e3 => ?_
  split at e3
  · rename_i n m c
    split at e3
    · rename_i hl
      exact ⟨n, m, c, _, by rw [o1.i, o2.i, o3.i], rgC_up hl.1 hl.2.1 hl.2.2.1 hl.2.2.2, k _ _ F3 H3 (g12.trans g3) (walks_steps n c _) e3⟩
    · cases e3
  · cases e3

/-! ### sum of a tuple -/
def gSumT : PV → Option ER
  | .t xs => (intsOf xs).map fun ns => .d (.i ns.sum)
  | _ => none
def rSumT (K : PySem.W.Frag) : List V → Hp → VK → Prop := fun vs H Q => ∃ (a : Addr) (ns : List Int), vs = [V.ref a] ∧ SqT K H a (ns.map V.int) ∧ Q (.int ns.sum) H
theorem cr_sumT {X : Cx} (hc : X.calm = true) : CallR X (.builtin "sum") (rSumT X.K) := by
  intro pins s σ H vs us Q I r h
  obtain ⟨a, ns, rfl, hs, q⟩ := h
  obtain ⟨its, rv, hl, _⟩ := I.tuple hs
  rw [Vals.ref1 r]
  have hi : PyProof.Rows.IntsAre its ns := rv.ints
  obtain ⟨o, ho, hcl, n, hd⟩ := hl
  have hT : s.heap.IsTuple a its.toArray := ⟨o, ho, hcl, n, hd⟩
  obtain ⟨xs, e⟩ := hi.allInts.items
  have hn : numsOf (intItems xs).toList = ns := by rw [← e]; exact hi.numsOf
  rw [PySem.nums_intItems] at hn
  rw [e] at hT
  refine PySem.W.ktm_sumG (I.ok.hd hc) hT fun h' tk t' hk => ?_
  rw [PySem.preSum_eq, List.take_of_length_le (by simp), hn]
  exact ⟨.int _, H, I.kept hk, ⟨_, rfl⟩, q⟩
theorem op_sumT : Op1C K (rSumT K) gSumT := by
  intro F H x a z Q s v1 e k
  unfold gSumT at e
  split at e
  · rename_i xs
    cases hi : intsOf xs with
    | none => rw [hi] at e; cases e
    | some ns =>
      rw [hi] at e
      cases e
      obtain ⟨p, vs, rfl, h1, h2⟩ := v1.t s
      rw [intsOf_eq hi] at h2
      rw [h2.ints] at h1
      exact ⟨p, ns, rfl, h1, k _ F H (Gr.refl s) (Dat.i _)⟩
  · cases e

/-! ### list(text), list(range(a, b)) -/
def gListS : PV → Option ER
  | .s cs => if cs.length ≤ big then some (.f (cs.map fun c => .s [c])) else none
  | _ => none
def rListS : List V → Hp → VK → Prop := fun xs H Q => ∃ a : Str, xs = [.str a] ∧ a.length ≤ sizeLine ∧ ∀ q, H q = none → Q (.ref q) (upd H q (.lst (a.cps.toList.map fun c => V.str ⟨#[c]⟩)))
theorem vals_signs {a : Str} {acc : Array Value} (h : ItemsOf (SignAt a) acc a.cps.size) : Vals (a.cps.toList.map fun c => V.str ⟨#[c]⟩) acc.toList := by
  have e : acc.toList.length = a.cps.size := by rw [Array.length_toList]; exact h.1
  have key := vals_of_get acc.toList (fun j => V.str ⟨#[a.cps.getD j 0]⟩) fun j u hj => by
    obtain ⟨c, t, h1, rfl⟩ := h.2 j u (by rw [← hj, Array.getElem?_toList])
    refine ⟨t, ?_⟩
    have : a.cps.getD j 0 = c := by rw [Array.getD_eq_getD_getElem?, h1]; rfl
    rw [this]
  have e2 : (List.range acc.toList.length).map (fun j => V.str ⟨#[a.cps.getD j 0]⟩) = a.cps.toList.map fun c => V.str ⟨#[c]⟩ := by
    apply List.ext_getElem?
    intro j
    rw [e, List.getElem?_map, List.getElem?_map]
    by_cases hj : j < a.cps.size
    · rw [List.getElem?_range hj, List.getElem?_eq_getElem (by simpa using hj)]
      simp [Array.getD_eq_getD_getElem?, hj]
    · rw [List.getElem?_eq_none_iff.mpr (by simp; omega), List.getElem?_eq_none_iff.mpr (by simp; omega)]
      rfl
  rw [e2] at key
  exact key
theorem call_listS {X : Cx} (hc : X.calm = true) : CallR X (.type "list") rListS := by
  intro pins s σ H xs us Q I r h
  obtain ⟨a, rfl, hl, q⟩ := h
  obtain ⟨u, rfl, t, rfl⟩ := vals1 r
  refine PySem.call_list_str (I.ok.hd hc) a t (hn := hl) fun h' tk acc c' hk e' hi => ?_
  refine ⟨.ref s.heap.objs.size, upd H s.heap.objs.size (.lst (a.cps.toList.map fun c => V.str ⟨#[c]⟩)), I.laid hk (Nat.le_refl _) (show ObjOk X.prog X.w _ _ _ (.lst (a.cps.toList.map fun c => V.str ⟨#[c]⟩)) from ⟨?_, acc.toList, c', vals_signs hi, ?_⟩), rfl, q _ (I.hok.fresh (Nat.le_refl _))⟩
  · rw [List.length_map, Array.length_toList]; exact hl
  · rw [Array.toArray_toList]; exact e'
theorem dats_signs : ∀ cs : List Nat, Dats K F (cs.map fun c => V.str ⟨#[c]⟩) (cs.map fun c => PV.s [c])
  | [] => .nil
  | c :: cs => .cons (.s [c]) (dats_signs cs)
theorem op_listS : Op1C K rListS gListS := by
  intro F H x a z Q s v1 e k
  unfold gListS at e
  split at e
  · rename_i cs
    split at e
    · rename_i hl
      cases e
      refine ⟨_, congrArg (fun t => [t]) v1.s, by rw [str_len, big_eq]; exact hl, fun q hq => ?_⟩
      exact k _ F _ (Gr.new s hq) ⟨q, _, rfl, hq, s.free hq, upd_same, dats_signs cs⟩
    · cases e
  · cases e
def gListR : PV → PV → Option ER
  | .i a, .i b => if a.natAbs < 1073741824 ∧ b.natAbs < 1073741824 ∧ (b - a).natAbs ≤ big then some (.f (upTo a (b - a).toNat)) else none
  | _, _ => none
theorem dats_rg (a b : Int) : Dats K F (rgV a b) (upTo a (b - a).toNat) := by
  unfold rgV upTo
  generalize List.range (b - a).toNat = L
  induction L with
  | nil => exact .nil
  | cons k L ih => exact .cons (.i _) ih
theorem de_listR (h : DE K CA W ta f1) (h' : DE K CA W tb f2) : DE K CA W (tLstRg (tRg2 ta tb)) (c2 gListR f1 f2) := by
  intro H0 F H σ ρ z Q R hz hq he
  refine h.go R hz he fun x v F1 H1 g1 o1 e1 => ?_
  refine h'.go (R.up g1) e1 (fun c e F' H' gr => he c e F' H' (g1.trans gr)) fun y w F2 H2 g2 o2 e2 => ?_
  have g12 := g1.trans g2
  unfold gListR at e2
  split at e2
  · rename_i n m
    split at e2
    · rename_i hl
      cases e2
      unfold big at hl
      refine ⟨n, m, o1.i, o2.i, ⟨by omega, by omega, by omega, by omega, by omega⟩, fun q hq' => ?_⟩
      exact hq _ F2 _ (g12.trans (Gr.new g2.s hq')) ⟨q, _, rfl, g12.h.free hq', g2.s.free hq', upd_same, dats_rg n m⟩
    · cases e2
  · cases e2

/-! ### methods of a text: join, split, find -/
def cM1 (g : List Nat → PV → Option ER) (f1 f2 : CF) : CF := fun ρ => e1 (fun x => match x with | .s cs => e1 (g cs) (f2 ρ) | _ => none) (f1 ρ)
def OpM1 (K : PySem.W.Frag) (r : V → List V → Hp → VK → Prop) (g : List Nat → PV → Option ER) : Prop := ∀ (F H : Hp) (x : List Nat) (y : V) (b : PV) (z : ER) (Q : VK), Same F H → Val K F H y b → g x b = some z →
  (∀ v F' H', Gr F H F' H' → VOk K H F' H' v z → Q v H') → r (.str ⟨x.toArray⟩) [y] H Q
theorem de_m1 {r : V → List V → Hp → VK → Prop} {g : List Nat → PV → Option ER} (ho : OpM1 K r g) (ha : DE K CA W ta f1) (hb : DE K CA W tb f2) : DE K CA W (tM1 r ta tb) (cM1 g f1 f2) := by
  intro H0 F H σ ρ z Q R hz hq he
  refine ha.go R hz he fun x v F1 H1 g1 o1 h1 => ?_
  cases x with
  | s cs =>
    refine ⟨⟨_, o1.s⟩, ?_⟩
    refine hb.go (R.up g1) h1 (fun c e F' H' gr => he c e F' H' (g1.trans gr)) fun y w F2 H2 g2 o2 h2 => ?_
    rw [o1.s]
    exact ho F2 H2 cs w y z Q g2.s o2 h2 fun u F' H' g3 ok => hq u F' H' (g1.trans (g2.trans g3)) (ok.back (g1.h.trans g2.h))
  | _ => cases h1
abbrev lensum (ys : List (List Nat)) : Nat := (ys.map (·.length)).sum
def gJoin (a : List Nat) : PV → Option ER
  | .l xs => (strsOf xs).bind fun ys => if lensum ys + ys.length * a.length ≤ big then some (.d (.s (TL.joinL a ys))) else none
  | _ => none
def rJoin (K : PySem.W.Frag) : V → List V → Hp → VK → Prop := fun x xs H Q => ∃ a p, ∃ ys : List Str, x = .str a ∧ xs = [.ref p] ∧ (SqL K H p (ys.map V.str) ∨ SqT K H p (ys.map V.str)) ∧
      (ys.map (·.length)).sum + ys.length * a.length ≤ 16777216 ∧ Q (.str (Txt.join a ys)) H
theorem op_joinP : OpM1 K (rJoin K) gJoin := by
  intro F H x y b z Q s v1 e k
  unfold gJoin at e
  split at e
  · rename_i xs
    cases hs : strsOf xs with
    | none => rw [hs] at e; cases e
    | some ys =>
      rw [hs] at e
      dsimp only [Option.bind] at e
      split at e
      · rename_i hl
        cases e
        obtain ⟨p, vs, rfl, h1, h2⟩ := v1.l s
        rw [strsOf_eq hs] at h2
        rw [h2.strs] at h1
        refine ⟨_, p, ys.map SX.S, rfl, rfl, .inl (SqL.of ?_), ?_, ?_⟩
        · rw [List.map_map]; exact h1
        · rw [SX.lens, List.length_map, str_len]; exact hl
        · show Q (.str (Txt.join (SX.S x) (ys.map SX.S))) H
          rw [SX.join_S]
          exact k _ F H (Gr.refl s) (Dat.s _)
      · cases e
  · cases e
/-- text.split(sep) -/
def gSplit (a : List Nat) : PV → Option ER
  | .s b => if b ≠ [] ∧ b.all (· < 256) = true ∧ a.length + 2 ≤ big then some (.f ((TL.spl b 0 [] a).map .s)) else none
  | _ => none
def rSplit : V → List V → Hp → VK → Prop := fun x xs H Q => ∃ a b, x = .str a ∧ xs = [.str b] ∧ (b.length == 0) = false ∧ a.length + 2 ≤ sizeLine ∧ rNewStrs (Txt.split a b) H Q
theorem Dats.of_strs : ∀ ys : List (List Nat), Dats K F ((ys.map SX.S).map V.str) (ys.map PV.s)
  | [] => .nil
  | y :: ys => .cons (.s y) (Dats.of_strs ys)
theorem op_splitP : OpM1 K rSplit gSplit := by
  intro F H x y b z Q s v1 e k
  unfold gSplit at e
  split at e
  · rename_i b
    split at e
    · rename_i hl
      cases e
      refine ⟨_, ⟨b.toArray⟩, rfl, by rw [v1.s], ?_, by rw [str_len, big_eq]; exact hl.2.2, fun p hp => ?_⟩
      · rw [str_len]
        cases b with
        | nil => exact absurd rfl hl.1
        | cons _ _ => rfl
      · show Q (.ref p) (upd H p (.lst ((Txt.split (SX.S x) (SX.S b)).map V.str)))
        rw [SX.split_S hl.1 hl.2.1]
        exact k _ F _ (Gr.new s hp) ⟨p, _, rfl, hp, s.free hp, upd_same, Dats.of_strs _⟩
    · cases e
  · cases e
end
/-! ### the rules -/
section
variable {X : Cx} {K : PySem.W.Frag} {CA : EvC} {W : WX} {a b c e o : Expr} {ta tb tc te : TE} {fa fb fc f : CF} {pos p p2 : Pos} {tg : Expr}
theorem pix_r3 (hm : X.mg "range" = none) (h : PX X K CA W a ta fa) (h2 : PX X K CA W b tb fb) (h3 : PX X K CA W c tc fc) (hg : Gl X "range" := by rfl)
    (hs : starEach [a, b, c] X.env = (false, eval a X.env) :: starEach [b, c] X.env := by rfl) (hs2 : starEach [b, c] X.env = (false, eval b X.env) :: starEach [c] X.env := by rfl) (hs3 : starEach [c] X.env = (false, eval c X.env) :: starEach [] X.env := by rfl) (hpl : (backTo pos (starEach [b, c] X.env)).any (·.1) = false := by rfl) :
    PIX X K CA W tg (.Call (.Name "range" p) [a, b, c] [] pos) (iRng3 (tCons ta (tCons tb (tCons tc tNil)))) (iR3 fa fb fc) :=
  ⟨pi_range3 hg hm (pa_cons h.pe (pa_cons h2.pe (pa_cons h3.pe pa_nil hs3) hs2) hs) hs hpl, di_r3 h.de h2.de h3.de⟩
theorem px_sumT (hc : X.calm = true) (hm : X.mg "sum" = none) (h : PX X K CA W e te f) (hg : Gl X "sum" := by rfl) (hs : starEach [e] X.env = (false, eval e X.env) :: starEach [] X.env := by rfl) (hK : X.K = K := by rfl) : PX X K CA W (.Call (.Name "sum" p) [e] [] pos) (tCB (rSumT K) (tCons te tNil)) (c1 gSumT f) := by
  subst hK
  exact ⟨pe_callB (cr_sumT hc) hg hm (by decide +kernel) (pax1 h hs) (by decide) (by decide) hs rfl, de_B1 op_sumT h.de⟩
theorem px_listS (hc : X.calm = true) (hm : X.mg "list" = none) (h : PX X K CA W e te f) (hg : Gl X "list" := by rfl) (hs : starEach [e] X.env = (false, eval e X.env) :: starEach [] X.env := by rfl) : PX X K CA W (.Call (.Name "list" p) [e] [] pos) (tCB rListS (tCons te tNil)) (c1 gListS f) :=
  ⟨pe_callTy (call_listS hc) hg hm (by decide +kernel) (pax1 h hs) (by decide) (by decide) hs rfl, de_B1 op_listS h.de⟩
theorem px_listR (hc : X.calm = true) (hm : X.mg "list" = none) (hm2 : X.mg "range" = none) (h : PX X K CA W a ta fa) (h2 : PX X K CA W b tb fb) {pos2 : Pos} (hg : Gl X "list" := by rfl) (hg2 : Gl X "range" := by rfl)
    (na : starEach [a, b] X.env = (false, eval a X.env) :: starEach [b] X.env := by rfl) (nb : starEach [b] X.env = (false, eval b X.env) :: starEach [] X.env := by rfl) (hp : (backTo pos (starEach [b] X.env)).any (·.1) = false := by rfl)
    (nc : starEach [.Call (.Name "range" p2) [a, b] [] pos] X.env = (false, eval (.Call (.Name "range" p2) [a, b] [] pos) X.env) :: starEach [] X.env := by rfl) :
    PX X K CA W (.Call (.Name "list" p) [.Call (.Name "range" p2) [a, b] [] pos] [] pos2) (tLstRg (tRg2 ta tb)) (c2 gListR fa fb) := ⟨pe_listRg hc hg hm (prg_2 hg2 hm2 h.pe h2.pe na nb hp) nc, de_listR h.de h2.de⟩
theorem px_join (h : PX X K CA W o ta fa) (h2 : PX X K CA W e tb fb) {apos : Pos} (hs : starEach [e] X.env = [(false, eval e X.env)] := by rfl) (hbase : attributeBase o "join" X.env (eval o X.env) = eval o X.env := by rfl) (hline : (apos.endLine == pos.line) = true := by rfl) (hK : X.K = K := by rfl) :
    PX X K CA W (.Call (.Attribute o "join" apos) [e] [] pos) (tM1 (rJoin K) ta tb) (cM1 gJoin fa fb) := by
  subst hK
  exact ⟨pe_join h.pe h2.pe hs hbase hline, de_m1 op_joinP h.de h2.de⟩
theorem px_split (h : PX X K CA W o ta fa) (h2 : PX X K CA W e tb fb) {apos : Pos} (hs : starEach [e] X.env = [(false, eval e X.env)] := by rfl) (hbase : attributeBase o "split" X.env (eval o X.env) = eval o X.env := by rfl) (hline : (apos.endLine == pos.line) = true := by rfl) :
    PX X K CA W (.Call (.Attribute o "split" apos) [e] [] pos) (tM1 rSplit ta tb) (cM1 gSplit fa fb) := ⟨pe_split h.pe h2.pe hs hbase hline, de_m1 op_splitP h.de h2.de⟩
end
end DD
/-! rows for simp of the further operators -/
namespace DD
open PySem PySem.Spec L2
section
variable {f g h : CF} {ρ : Sl} {x y : PV} {xs ys : List PV} {q : List PV → Option ER} {a b c : Int} {cs ds : List Nat} {r : ER}
def uR3 (q : List PV → Option ER) : PV → PV → PV → Option ER
  | .i a, .i b, .i c => if a.natAbs < 1073741824 ∧ b.natAbs < 1073741824 ∧ 0 < c ∧ c.natAbs < 1073741824 then q (steps a c (stepN a b c)) else none
  | _, _, _ => none
@[simp] theorem uR3_i : uR3 q (.i a) (.i b) (.i c) = if a.natAbs < 1073741824 ∧ b.natAbs < 1073741824 ∧ 0 < c ∧ c.natAbs < 1073741824 then q (steps a c (stepN a b c)) else none := rfl
@[simp] theorem iR3_ap : iR3 f g h q ρ = e1 (fun x => e1 (fun y => e1 (uR3 q x y) (h ρ)) (g ρ)) (f ρ) := rfl
@[simp] theorem gSumT_t : gSumT (.t xs) = (intsOf xs).map fun ns => .d (.i ns.sum) := rfl
def uM (q : List Nat → PV → Option ER) (o : Option ER) : PV → Option ER
  | .s cs => e1 (q cs) o
  | _ => none
@[simp] theorem uM_s {q : List Nat → PV → Option ER} {o : Option ER} : uM q o (.s cs) = e1 (q cs) o := rfl
@[simp] theorem cM1_ap {q : List Nat → PV → Option ER} : cM1 q f g ρ = e1 (uM q (g ρ)) (f ρ) := rfl
@[simp] theorem gJoin_l : gJoin cs (.l xs) = (strsOf xs).bind fun ys => if lensum ys + ys.length * cs.length ≤ big then some (.d (.s (TL.joinL cs ys))) else none := rfl
@[simp] theorem gSplit_s : gSplit cs (.s ds) = if ds ≠ [] ∧ ds.all (· < 256) = true ∧ cs.length + 2 ≤ big then some (.f ((TL.spl ds 0 [] cs).map .s)) else none := rfl
@[simp] theorem gListS_s : gListS (.s cs) = if cs.length ≤ big then some (.f (cs.map fun c => .s [c])) else none := rfl
@[simp] theorem gListR_i : gListR (.i a) (.i b) = if a.natAbs < 1073741824 ∧ b.natAbs < 1073741824 ∧ (b - a).natAbs ≤ big then some (.f (upTo a (b - a).toNat)) else none := rfl
@[simp] theorem big_0 : 0 < big := by unfold big; omega
@[simp] theorem big_1 : 1 ≤ big := by unfold big; omega
@[simp] theorem big_2 : 2 ≤ big := by unfold big; omega
@[simp] theorem big_3 : 3 ≤ big := by unfold big; omega
@[simp] theorem big_4 : 4 ≤ big := by unfold big; omega
@[simp] theorem big_5 : 5 ≤ big := by unfold big; omega
@[simp] theorem big_6 : 6 ≤ big := by unfold big; omega
@[simp] theorem big_7 : 7 ≤ big := by unfold big; omega
end
end DD
/-! lists of lists that are written; a def that writes its argument; dicts -/
namespace DD
open PySem PySem.Spec L2
section
variable {K : PySem.W.Frag} {CA : EvC} {W : WX} {te ta tb tc tk : TE} {tt tu : TT} {f fk f1 f2 f3 : CF} {F0 H0 F H : Hp} {σ : L2.St} {ρ : Sl} {t u v : TS} {s s1 s2 : CS} {D : Ends}
/-! ### lists of lists -/
def cAsgG (i : Nat) (f : CF) : CS := fun ρ => match f ρ with
  | some (.f []) => some (.nx (ρ.set i (.g [])))
  | some (.e c) => some (.ex c)
  | _ => none
theorem ds_asgG {i : Nat} (h : DE K CA W te f) : DS K CA W (tAsg te (gName i)) (cAsgG i f) := by
  intro F0 H0 σ H ρ o D A e P
  unfold cAsgG at e
  split at e
  · rename_i h1
    cases e
    refine h.at A h1 (fun F b R v F' H' g ok => ?_) (fun c e => by cases e)
    obtain ⟨p, vs, rfl, h0, h2, h3, h4⟩ := ok
    cases h4
    refine P _ _ ⟨F', b.up g, (R.up g).setn (B := [p]) rfl ⟨p, [], rfl, rfl, by simp, h3, trivial⟩ (fun a ha => ?_) ⟨F, R⟩ (fun a ha => ?_) g.h⟩
    · rw [List.mem_singleton.mp ha]; exact ⟨h2, b.h.free h0⟩
    · rw [List.mem_singleton.mp ha]; exact h0
  · rename_i c h1
    cases e
    exact h.at A h1 (fun F b R v F' H' g ok => ok.elim) (fun c' e H' s => by cases e; exact P σ H' s)
  · cases e
theorem At.grp {i : Nat} {xss : List (List PV)} (A : At K CA F0 H0 ρ σ H) (hi : ρ[i]? = some (.g xss)) : ∃ F p ps, Bs F0 H0 F H ∧ Rep K CA H0 F H σ ρ ∧ σ[i]? = some (some (.ref p)) ∧ (p :: ps).Nodup ∧ H p = some (.lst (ps.map V.ref)) ∧ Lists K F H ps xss ∧ ∀ a ∈ p :: ps, H a ≠ none ∧ F a = none ∧ H0 a = none := by
  obtain ⟨F, b, R⟩ := A
  obtain ⟨v, B, e1, ⟨p, ps, rfl, rfl, nd, hp, hl⟩, hB, _⟩ := R.write hi rfl
  exact ⟨F, p, ps, b, R, e1, nd, hp, hl, hB⟩
theorem Lists.snoc : ∀ {ps : List Addr} {xss : List (List PV)} {q : Addr} {vs : List V} {xs : List PV}, Lists K F H ps xss → H q = some (.lst vs) → Dats K F vs xs → Lists K F H (ps ++ [q]) (xss ++ [xs])
  | [], [], _, _, _, _, h, d => ⟨⟨_, h, d⟩, trivial⟩
  | _ :: _, _ :: _, _, _, _, ⟨a, r⟩, h, d => ⟨a, Lists.snoc r h d⟩
  | [], _ :: _, _, _, _, r, _, _ => r.elim
  | _ :: _, [], _, _, _, r, _, _ => r.elim
theorem Bs.off {F' H' : Hp} (b : Bs F0 H0 F H) {B : List Addr} (hB : ∀ a ∈ B, H0 a = none) (f : Same F F') (h : ∀ a o, H a = some o → a ∉ B → H' a = some o) (o : ∀ a x, F' a = some x → F a = some x ∨ H a = none) : Bs F0 H0 F' H' :=
  ⟨b.f.trans f, fun a x e => h a x (b.h a x e) fun q => (by rw [hB a q] at e; cases e), fun a x e => by
    rcases o a x e with q | q
    · exact b.o a x q
    · exact .inr (b.h.free q)⟩
/-- groups.append([..]) -/
def cAppG (i : Nat) (f : CF) : CS := fun ρ => match ρ[i]? with
  | some (.g xss) => (match f ρ with
    | some (.f ys) => if xss.length < big then some (.nx (ρ.set i (.g (xss ++ [ys])))) else none
    | some (.e c) => some (.ex c)
    | _ => none)
  | _ => none
theorem ds_appG {i : Nat} (h : DE K CA W te f) : DS K CA W (tDrop (tBM K "list" rAppend (tVar i) (tCons te tNil))) (cAppG i f) := by
  intro F0 H0 σ H ρ o D A e P
  unfold cAppG at e
  split at e
  · rename_i xss hi
    obtain ⟨F, p, ps, b, R, e1, nd, hp, hl, hB⟩ := A.grp hi
    refine ⟨.ref p, e1, .inl ⟨rfl, _, SqL.of hp⟩, ?_⟩
    split at e
    · rename_i ys h1
      split at e
      · rename_i hlen
        cases e
        refine h.at ⟨F, b, R⟩ h1 (fun F1 b1 R1 v F' H' g ok => ?_) (fun c e => by cases e)
        obtain ⟨q, vs, rfl, h0, h2, h3, h4⟩ := ok
        obtain ⟨v', B, f1, ⟨p', ps', ev, eB, nd', hp', hl'⟩, hB', k⟩ := (R1.up g).writeB R1 g.h hi rfl
        rw [e1] at f1
        cases f1
        cases ev
        subst eB
        have hq : q ∉ p :: ps' := fun hm => by
          have hpp := g.h _ _ hp
          rw [hp'] at hpp
          injection hpp with hpp
          injection hpp with hpp
          have := refs_inj hpp
          subst this
          exact (hB q hm).1 h0
        refine ⟨p, _, .ref q, rfl, rfl, hp', by rw [List.length_map, hl'.length, big_eq]; exact hlen, ?_⟩
        have hqp : q ≠ p := fun z => hq (by rw [z]; simp)
        have offp : ∀ a, a ≠ p → upd H' p (.lst (ps'.map V.ref ++ [.ref q])) a = H' a := fun a ha => upd_ne ha
        refine P _ _ ⟨F', (b1.up g).off (B := p :: ps') (fun a ha => (hB' a ha).2.2) (Same.refl _) (fun a o e n => by rw [offp a (fun z => n (by rw [z]; simp))]; exact e) (fun _ _ e => .inl e), ?_⟩
        refine k F' _ (.g (xss ++ [ys])) (p :: (ps' ++ [q])) rfl (Same.refl _) (fun a o e n => by rw [offp a (fun z => n (by rw [z]; simp))]; exact e) (fun a o e => ?_) (fun _ _ e => .inl e)
          ⟨p, ps' ++ [q], rfl, rfl, ?_, by rw [upd_same, List.map_append]; rfl, (hl'.off (Same.refl _) fun a ha => offp a fun z => ?_).snoc (by rw [offp q hqp]; exact h3) h4⟩ (fun a ha => ?_)
        · rw [offp a (ne_of_none e (hB' p (by simp)).2.1)]
          exact g.s a o e
        · rw [← List.cons_append, List.nodup_append]
          exact ⟨nd', by simp, fun a ha b hb z => hq (by rw [List.mem_singleton.mp hb] at z; rw [← z]; exact ha)⟩
        · subst z
          exact (List.nodup_cons.mp nd').1 ha
        · rw [← List.cons_append] at ha
          rcases List.mem_append.mp ha with ha | ha
          · exact ⟨(hB' a ha).2.1, (hB' a ha).2.2, .inl ha⟩
          · rw [List.mem_singleton.mp ha]
            exact ⟨h2, b1.h.free h0, .inr h0⟩
      · cases e
    · rename_i c h1
      cases e
      exact h.at ⟨F, b, R⟩ h1 (fun F1 b1 R1 v F' H' g ok => ok.elim) (fun c' e H' s => by cases e; exact P σ H' s)
    · cases e
  · cases e
theorem Lists.last : ∀ {ps : List Addr} {xss : List (List PV)} {xs : List PV}, Lists K F H ps (xss ++ [xs]) → ∃ qs q vs, ps = qs ++ [q] ∧ Lists K F H qs xss ∧ H q = some (.lst vs) ∧ Dats K F vs xs
  | [q], [], _, ⟨⟨vs, h, d⟩, _⟩ => ⟨[], q, vs, rfl, trivial, h, d⟩
  | p :: ps, x :: xss, _, ⟨a, r⟩ => by
    obtain ⟨qs, q, vs, e, h1, h2, h3⟩ := Lists.last r
    exact ⟨p :: qs, q, vs, by rw [e]; rfl, ⟨a, h1⟩, h2, h3⟩
  | [], [], _, r => r.elim
  | [], _ :: _, _, r => r.elim
  | _ :: _ :: _, [], _, ⟨_, r⟩ => r.elim
theorem atI_lastR {qs : List Addr} {q : Addr} : L2.atI ((qs ++ [q]).map V.ref) (-1) = some (.ref q) := by
  unfold L2.atI L2.ixN
  rw [if_neg (by decide), if_pos (by simp; omega), List.length_map, List.length_append, List.length_singleton]
  have e : ((-1 : Int) + ((qs.length + 1 : Nat) : Int)).toNat = qs.length := by omega
  simp only [Option.bind, e]
  simp
/-- groups[-1].append(e) -/
def cAppL (i : Nat) (f : CF) : CS := fun ρ => match ρ[i]? with
  | some (.g xss) => (match xss.getLast? with
    | some ys => lS (fun y => if ys.length < big then some (.nx (ρ.set i (.g (xss.dropLast ++ [ys ++ [y]])))) else none) (f ρ)
    | none => none)
  | _ => none
theorem ds_appL {i : Nat} (h : DE K CA W te f) : DS K CA W (tDrop (tBM K "list" rAppend (tOp (rIx K) (tVar i) (tUn (rU fun i => .int (-i)) (tC (.int 1)))) (tCons te tNil))) (cAppL i f) := by
  intro F0 H0 σ H ρ o D A e P
  unfold cAppL at e
  split at e
  · rename_i xss hi
    split at e
    · rename_i ys hys
      have hx : xss = xss.dropLast ++ [ys] := by
        cases xss with
        | nil => cases hys
        | cons a r =>
          rw [List.getLast?_eq_some_getLast (by simp)] at hys
          cases hys
          exact (List.dropLast_concat_getLast (by simp)).symm
      generalize hds : xss.dropLast = zss at *
      subst hx
      obtain ⟨F, p, ps, b, R, e1, nd, hp, hl, hB⟩ := A.grp hi
      obtain ⟨qs, q, vs, rfl, l1, l2, l3⟩ := hl.last
      refine ⟨.ref p, e1, 1, rfl, .inl ⟨p, _, -1, .ref q, rfl, rfl, SqL.of hp, atI_lastR, ?_⟩⟩
      refine ⟨.inl ⟨rfl, vs, SqL.of l2⟩, ?_⟩
      refine h.atS ⟨F, b, R⟩ e (fun F1 b1 R1 v y F' H' g hd e2' => ?_) (fun c e => post_ex o e P)
      split at e2'
      · rename_i hlen
        cases e2'
        obtain ⟨v', B, f1, ⟨p', ps', ev, eB, nd', hp', hl'⟩, hB', k⟩ := (R1.up g).writeB R1 g.h hi rfl
        rw [e1] at f1
        cases f1
        cases ev
        subst eB
        obtain ⟨qs', q', vs', rfl, m1, m2, m3⟩ := hl'.last
        have hqq : qs' ++ [q'] = qs ++ [q] := by
          have hpp := g.h _ _ hp
          rw [hp'] at hpp
          injection hpp with hpp
          injection hpp with hpp
          exact refs_inj hpp
        have hq : q' = q := by
          have := congrArg List.getLast? hqq
          simpa using this
        subst hq
        refine ⟨q', vs', v, rfl, rfl, m2, by rw [m3.length, big_eq]; exact hlen, ?_⟩
        have nq : q' ∉ p :: qs' := by
          rw [← List.cons_append, List.nodup_append] at nd'
          exact fun z => nd'.2.2 q' z q' (by simp) rfl
        have offp : ∀ a, a ≠ q' → upd H' q' (.lst (vs' ++ [v])) a = H' a := fun a ha => upd_ne ha
        refine P _ _ ⟨F', (b1.up g).off (B := p :: (qs' ++ [q'])) (fun a ha => (hB' a ha).2.2) (Same.refl _) (fun a o e n => by rw [offp a (fun z => n (by rw [z]; simp))]; exact e) (fun _ _ e => .inl e), ?_⟩
        refine k F' _ (.g (zss ++ [ys ++ [y]])) (p :: (qs' ++ [q'])) rfl (Same.refl _) (fun a o e n => by rw [offp a (fun z => n (by rw [z]; simp))]; exact e) (fun a o e => ?_) (fun _ _ e => .inl e)
          ⟨p, qs' ++ [q'], rfl, rfl, nd', by rw [offp p (fun z => nq (by rw [z]; simp))]; exact hp', (m1.off (Same.refl _) fun a ha => offp a fun z => nq (by rw [← z]; simp [ha])).snoc upd_same (m3.snoc hd)⟩ (fun a ha => ?_)
        · rw [offp a (ne_of_none e (hB' q' (by simp)).2.1)]
          exact g.s a o e
        · exact ⟨(hB' a ha).2.1, (hB' a ha).2.2, .inl ha⟩
      · cases e2'
    · cases e
  · cases e
theorem Lists.dats {B : List Addr} : ∀ {ps : List Addr} {xss : List (List PV)}, (∀ a ∈ ps, a ∈ B) → Same F (fun a => if a ∈ B then H a else F a) → Lists K F H ps xss → Dats K (fun a => if a ∈ B then H a else F a) (ps.map V.ref) (xss.map PV.l)
  | [], [], _, _, _ => .nil
  | p :: ps, xs :: xss, hB, hs, ⟨⟨vs, h, d⟩, r⟩ => .cons (.l (by rw [if_pos (hB p (by simp))]; exact h) (d.mono hs)) (Lists.dats (fun a ha => hB a (by simp [ha])) hs r)
  | [], _ :: _, _, _, r => r.elim
  | _ :: _, [], _, _, r => r.elim
/-- a slot's owned thing is data from here on -/
def cFrzG (i : Nat) (s : CS) : CS := fun ρ => match ρ[i]? with
  | some (.g xss) => s (ρ.set i (.d (.l (xss.map .l))))
  | some (.q ks xs) => s (ρ.set i (.d (.q false ks xs)))
  | some (.h ks xss) => s (ρ.set i (.d (.q true ks (xss.map .l))))
  | _ => none
theorem ds_frzG {i : Nat} (h : DS K CA W t s) : DS K CA W t (cFrzG i s) := by
  intro F0 H0 σ H ρ o D A e P
  have key : ∀ (r : Sl1) (x : PV), ρ[i]? = some r → r.isW = true → (∀ F v B, (∀ a ∈ B, F a = none) → Same F (fun a => if a ∈ B then H a else F a) → Own K F H v B r → Dat K (fun a => if a ∈ B then H a else F a) v x) → s (ρ.set i (.d x)) = some o → t D σ H := by
    intro r x hi hw hd e
    obtain ⟨F, b, R⟩ := A
    obtain ⟨v, B, e1, ho, hB, k⟩ := R.thaw hi hw
    have hs : Same F (fun a => if a ∈ B then H a else F a) := fun a o e => by
      dsimp only
      split
      · rename_i ha
        rw [(hB a ha).2.1] at e; cases e
      · exact e
    refine h F0 H0 σ H _ o D ⟨_, ⟨b.f.trans hs, b.h, fun a x e => ?_⟩, k x (hd F v B (fun a ha => (hB a ha).2.1) hs ho)⟩ e P
    split at e
    · rename_i ha
      exact .inr (hB a ha).2.2
    · exact b.o a x e
  unfold cFrzG at e
  split at e
  · rename_i xss hi
    refine key _ _ hi rfl (fun F v B hF hs ho => ?_) e
    obtain ⟨p, ps, rfl, rfl, nd, hp, hl⟩ := ho
    exact .l (by rw [if_pos (by simp)]; exact hp) (hl.dats (fun a ha => by simp [ha]) hs)
  · rename_i ks xs hi
    refine key _ _ hi rfl (fun F v B hF hs ho => ?_) e
    obtain ⟨p, o, ws, rfl, rfl, hp, hd, hl⟩ := ho
    exact .q (by rw [if_pos (by simp)]; exact hp) (hd.mono hs) (hl.mono hs)
  · rename_i ks xss hi
    refine key _ _ hi rfl (fun F v B hF hs ho => ?_) e
    obtain ⟨p, o, ps, rfl, rfl, nd, hp, hd, hl⟩ := ho
    exact .q (by rw [if_pos (by simp)]; exact hp) (hd.mono hs) (hl.dats (fun a ha => by simp [ha]) hs)
  · cases e

/-! ### a def that writes its first argument, a list -/
def PostC (K : PySem.W.Frag) (CA : EvC) (F0 H0 : Hp) (D : Ends) (σ : L2.St) : Fl → Prop
  | .nx ρ => ∀ H, At K CA F0 H0 ρ σ H → D.nx σ H
  | _ => False
/-- no name is stored -/
def DSc (K : PySem.W.Frag) (CA : EvC) (t : TS) (f : CS) : Prop := ∀ (F0 H0 : Hp) (σ : L2.St) (H : Hp) (ρ : Sl) (o : Fl) (D : Ends), At K CA F0 H0 ρ σ H → f ρ = some o → PostC K CA F0 H0 D σ o → t D σ H
theorem dsc_next : DSc K CA tNext cNext := fun F0 H0 σ H ρ o D A e P => by cases e; exact P H A
theorem dsc_if (hc : DT K CA W tt f) (h1 : DSc K CA t s1) (h2 : DSc K CA u s2) : DSc K CA (tIfS tt t u) (cIf f s1 s2) := by
  intro F0 H0 σ H ρ o D A e P
  obtain ⟨F, b, R⟩ := A
  unfold cIf at e
  split at e
  · rename_i hb
    refine hc H0 F H σ ρ _ _ R hb (.inl ⟨_, rfl⟩) (fun k q F' H' g => ?_) (fun c e => by cases e)
    cases q
    exact iteT (h1 F0 H0 σ H' ρ o D ⟨F', b.up g, R.up g⟩ e P)
  · rename_i hb
    refine hc H0 F H σ ρ _ _ R hb (.inl ⟨_, rfl⟩) (fun k q F' H' g => ?_) (fun c e => by cases e)
    cases q
    exact iteF (h2 F0 H0 σ H' ρ o D ⟨F', b.up g, R.up g⟩ e P)
  · cases e
    exact P.elim
  · cases e
theorem dsc_app {i : Nat} (h : DE K CA W te f) : DSc K CA (tDrop (tBM K "list" rAppend (tVar i) (tCons te tNil))) (cApp i f) := by
  intro F0 H0 σ H ρ o D A e P
  unfold cApp at e
  split at e
  · rename_i xs hi
    obtain ⟨F, p, vs, b, R, e1, e2, e3, e4⟩ := A.mut hi
    refine ⟨.ref p, e1, .inl ⟨rfl, vs, SqL.of e3⟩, ?_⟩
    refine h.atS ⟨F, b, R⟩ e (fun F1 b1 R1 v y F' H' g hd e2' => ?_) (fun c e => by subst e; exact P.elim)
    split at e2'
    · rename_i hl
      cases e2'
      obtain ⟨q, ws, f1, f2, f3, f4, f5⟩ := (R1.up g).mt hi
      rw [e1] at f1
      cases f1
      refine ⟨p, ws, v, rfl, rfl, f4, by rw [f5.length, big_eq]; exact hl, ?_⟩
      exact P _ ⟨F', (b1.up g).wr f3, (R1.up g).wr hi e1 (f5.snoc hd)⟩
    · cases e2'
  · cases e
/-- xs[k] = e -/
def cSto (i : Nat) (fk f : CF) : CS := fun ρ => match ρ[i]? with
  | some (.m xs) => lS (fun y => match fk ρ with
    | some (.d (.i k)) => (match ixN xs.length k with
      | some j => some (.nx (ρ.set i (.m (xs.set j y))))
      | none => none)
    | _ => none) (f ρ)
  | _ => none
theorem dsc_sto {i : Nat} (hk : DE K CA W tk fk) (h : DE K CA W te f) : DSc K CA (tAsg te (L2.gSub (tVar i) tk rSetL)) (cSto i fk f) := by
  intro F0 H0 σ H ρ o D A e P
  unfold cSto at e
  split at e
  · rename_i xs hi
    obtain ⟨F, p, vs, b, R, e1, e2, e3, e4⟩ := A.mut hi
    refine h.atS ⟨F, b, R⟩ e (fun F1 b1 R1 v y F' H' g hd e2' => ?_) (fun c e => by subst e; exact P.elim)
    refine ⟨.ref p, e1, ?_⟩
    split at e2'
    · rename_i k hk1
      split at e2'
      · rename_i j hj
        cases e2'
        refine hk H0 F' H' σ ρ _ _ (R1.up g) hk1 (fun w F3 H3 g3 ok3 => ?_) (fun c e => by cases e)
        obtain ⟨q, ws, f1, f2, f3, f4, f5⟩ := ((R1.up g).up g3).mt hi
        rw [e1] at f1
        cases f1
        exact ⟨p, ws, k, j, rfl, ok3.va.i, f4, by rw [f5.length]; exact hj, P _ ⟨F3, ((b1.up g).up g3).wr f3, ((R1.up g).up g3).wr hi e1 (f5.set j (hd.mono g3.f))⟩⟩
      · cases e2'
    · cases e2'
  · cases e
end
end DD
/-! a def that writes its first argument: its promise, its call; rules -/
namespace DD
open PySem PySem.Spec L2
def spP (K : PySem.W.Frag) (φ : List PV → PV → Option (List PV)) : Sp := fun vs H Q E => ∃ (F : Hp) (p : Addr) (ws : List V) (xs : List PV) (v : V) (x : PV) (ys : List PV), vs = [.ref p, v] ∧ Same F H ∧ F p = none ∧ H p = some (.lst ws) ∧ Dats K F ws xs ∧ Dat K F v x ∧ φ xs x = some ys ∧
  ∀ F' H' ws', Same F F' → (∀ a o, H a = some o → a ≠ p → H' a = some o) → Same F' H' → (∀ a o, F' a = some o → F a = some o ∨ H a = none) → F' p = none → H' p = some (.lst ws') → Dats K F' ws' ys → Q .non H'
/-- what such a def makes of the list, by its body: n names -/
def fnP (n : Nat) (s : CS) (xs : List PV) (x : PV) : Option (List PV) := match s (.m xs :: .d x :: List.replicate (n - 2) .u) with
  | some (.nx ρ) => (match ρ[(0 : Nat)]? with
    | some (.m ys) => some ys
    | _ => none)
  | _ => none
section
variable {K : PySem.W.Frag} {CA : EvC} {W : WX} {te : TE} {f : CF} {F0 H0 F H : Hp} {σ : L2.St} {ρ : Sl} {D : Ends}
def cPut (φ : List PV → PV → Option (List PV)) (i : Nat) (f : CF) : CS := fun ρ => match ρ[i]? with
  | some (.m xs) => lS (fun y => (φ xs y).bind fun ys => some (.nx (ρ.set i (.m ys)))) (f ρ)
  | _ => none
theorem ds_put {φ : List PV → PV → Option (List PV)} {i : Nat} (h : DE K CA W te f) : DS K CA W (tDrop (tCallS (spP K φ) (WE W) (tCons (tVar i) (tCons te tNil)))) (cPut φ i f) := by
  intro F0 H0 σ H ρ o D A e P
  unfold cPut at e
  split at e
  · rename_i xs hi
    obtain ⟨F, p, vs, b, R, e1, e2, e3, e4⟩ := A.mut hi
    refine ⟨.ref p, e1, ?_⟩
    refine h.atS ⟨F, b, R⟩ e (fun F1 b1 R1 v y F' H' g hd e2' => ?_) (fun c e => post_ex o e P)
    cases hφ : φ xs y with
    | none => rw [hφ] at e2'; cases e2'
    | some ys =>
      rw [hφ] at e2'
      cases e2'
      obtain ⟨v', B, f1, ⟨p', ws, ev, eB, f4, f5⟩, hB, k⟩ := (R1.up g).write hi rfl
      rw [e1] at f1
      cases f1
      cases ev
      subst eB
      have hp := hB p (by simp)
      refine ⟨F', p, ws, xs, v, y, ys, rfl, g.s, hp.2.1, f4, f5, hd, hφ, fun F2 H2 ws' sF sH s2 o2 n2 h2 d2 => P _ _ ⟨F2, ?_, ?_⟩⟩
      · exact (b1.up g).off (B := [p]) (fun a ha => by rw [List.mem_singleton.mp ha]; exact hp.2.2) sF (fun a o e n => sH a o e (by simpa using n)) o2
      · exact k F2 H2 (.m ys) [p] rfl sF (fun a o e n => sH a o e (by simpa using n)) s2 o2 ⟨p, ws', rfl, rfl, h2, d2⟩ fun a ha => by
          rw [List.mem_singleton.mp ha]
          exact ⟨n2, hp.2.2, .inl (by simp)⟩
  · cases e
theorem rep_put {N : List Str} {p : Addr} {ws : List V} {xs : List PV} {v : V} {x : PV} (hn : 2 ≤ N.length) (s : Same F H) (hF : F p = none) (hp : H p = some (.lst ws)) (hs : Dats K F ws xs) (hd : Dat K F v x) :
    Rep K CA (fun a => if a = p then none else H a) F H (L2.start N [.ref p, v]) (.m xs :: .d x :: List.replicate (N.length - 2) .u) where
  len := by unfold L2.start; simp
  sub := s
  dat := fun i y e => by
    match i with
    | 0 => simp at e
    | 1 =>
      simp at e
      subst e
      exact ⟨v, by unfold L2.start; simp, hd⟩
    | i + 2 =>
      rw [List.getElem?_cons_succ, List.getElem?_cons_succ, List.getElem?_replicate] at e
      split at e <;> cases e
  exn := fun i c e => by
    match i with
    | 0 => simp at e
    | 1 => simp at e
    | i + 2 =>
      rw [List.getElem?_cons_succ, List.getElem?_cons_succ, List.getElem?_replicate] at e
      split at e <;> cases e
  ow := by
    refine ⟨fun i => if i = 0 then [p] else [], fun i a ha => ?_, fun i j a ha hb => ?_, fun i r e w => ?_⟩
    · dsimp only at ha
      split at ha
      · rw [List.mem_singleton.mp ha]
        exact ⟨by rw [hp]; simp, hF, by simp⟩
      · cases ha
    · dsimp only at ha hb
      split at ha
      · split at hb
        · omega
        · cases hb
      · cases ha
    · match i with
      | 0 =>
        simp at e
        subst e
        exact ⟨.ref p, by unfold L2.start; simp, p, ws, rfl, by simp, hp, hs⟩
      | 1 =>
        simp at e
        subst e
        cases w
      | i + 2 =>
        rw [List.getElem?_cons_succ, List.getElem?_cons_succ, List.getElem?_replicate] at e
        split at e
        · cases e; cases w
        · cases e
end
section
variable {P : Program} {w : World} {K : PySem.W.Frag} {mg : Str → Option Value} {base : Heap} {CA : EvC}
theorem okP {x qual : Str} {st : Stmt} {f : Addr} {fd : FuncData} {N ps : List Str} {k : Nat} {s : CS} (F : Fun K x qual st f fd) (S : FnScope N ps (defScope st)) (hps : ps.length = 2) (hn : 2 ≤ N.length)
    (hbody : ∀ (cdv : Value) (A : Around) (outer : List Env) (s0 : Shared) (H : Hp) (E : XK), Room k (A.deeper (PyProof.Rows.envOfC qual (defScope st) s0.heap.objs.size f cdv)) →
      ∃ t, PSs (cxOf (L2.CX P w) P w K mg base N qual (defScope st) f cdv A outer s0 H E) (defBody st) t ∧ DSc K CA t s) :
    FnOk P w K mg base (L2.CX P w) (k + 1) f fd ps (spP K (fnP N.length s)) := by
  refine F.okX S (fun vs H Q E h => ?_) (fun cdv A outer s0 H vs Q E hr h => ?_)
  · obtain ⟨F, p, ws, xs, v, x, ys, rfl, _⟩ := h
    rw [hps]; rfl
  · obtain ⟨t, h1, h2⟩ := hbody cdv A outer s0 H E hr
    refine ⟨t, h1, ?_⟩
    obtain ⟨F, p, ws, xs, v, x, ys, rfl, sm, hF, hp, hs, hd, hz, hq⟩ := h
    unfold fnP at hz
    split at hz
    · rename_i ρ' e
      split at hz
      · rename_i zs hi
        cases hz
        refine h2 F (fun a => if a = p then none else H a) _ H _ _ _ ⟨F, ⟨Same.refl _, fun a o e => ?_, fun _ _ e => .inl e⟩, rep_put hn sm hF hp hs hd⟩ e fun H' A' => ?_
        · try dsimp only at e
          split at e
          · cases e
          · exact e
        · obtain ⟨F', b, R⟩ := A'
          obtain ⟨p', ws', f1, f2, f3, f4, f5⟩ := R.mt hi
          have hpp : p' = p := by
            unfold L2.start at f1
            simp at f1
            exact f1.symm
          subst hpp
          refine hq F' H' ws' b.f (fun a o e n => b.h a o (by show (if a = _ then none else H a) = some o; rw [if_neg n]; exact e)) R.sub (fun a o e => ?_) f2 f4 f5
          rcases b.o a o e with q | q
          · exact .inl q
          · try dsimp only at q
            split at q
            · rename_i z
              subst z
              rw [f2] at e
              cases e
            · exact .inr q
      · cases hz
    · cases hz
end
/-- a def that writes its first argument -/
structure DefP (P : Program) (w : World) (K : PySem.W.Frag) (mg : Str → Option Value) (base : Heap) (k : Nat) (x : Str) (φ : List PV → PV → Option (List PV)) : Prop where
  ex : ∃ (f : Addr) (fd : FuncData) (ps : List Str), FnOk P w K mg base (L2.CX P w) k f fd ps (spP K φ) ∧ mg x = some (.ref f) ∧ PySem.W.keepIn K (.ref f) = true ∧ Binds K fd ps []
structure PCX (X : Cx) (K : PySem.W.Frag) (CA : EvC) (W : WX) (st : Stmt) (t : TS) (s : CS) : Prop where
  ps : PS X st t
  ds : DSc K CA t s
structure PCsX (X : Cx) (K : PySem.W.Frag) (CA : EvC) (W : WX) (st : List Stmt) (t : TS) (s : CS) : Prop where
  ps : PSs X st t
  ds : DSc K CA t s
section
variable {X : Cx} {K : PySem.W.Frag} {CA : EvC} {W : WX} {a b c e o ei : Expr} {ta tb tc te tk : TE} {fa fb fc f fk : CF} {pos p p2 : Pos} {tt : TT} {st : Stmt} {A B : List Stmt} {tS tU : TS} {s u : CS} {apos cpos : Pos}
theorem cx_one (h : PCX X K CA W st tS s) : PCsX X K CA W [st] tS s := ⟨pss_one h.ps, h.ds⟩
theorem cx_nil : PCsX X K CA W [] tNext cNext := ⟨pss_nil, dsc_next⟩
/-- the text that stands first in a def -/
theorem cx_doc {x : Str} {j : Nat} {pos' : Pos} (h : PCsX X K CA W A tS s) : PCsX X K CA W (.Expr (.Constant (.str x) j pos) pos' :: A) (tSeq tNext tS) s := ⟨pss_cons ps_doc h.ps, fun F0 H0 σ H ρ o D A e P => h.ds F0 H0 σ H ρ o D A e P⟩
theorem c_if (hc : PTX X K CA W c tt fc) (h1 : PCsX X K CA W A tS s) (h2 : PCsX X K CA W B tU u) : PCX X K CA W (.If c A B pos) (tIfS tt tS tU) (cIf fc s u) := ⟨ps_if hc.pt h1.ps h2.ps, dsc_if hc.dt h1.ds h2.ds⟩
theorem c_app (i : Nat) (h0 : PX X K CA W o (tVar i) (cV i)) (h : PX X K CA W e te f) (hbase : attributeBase o "append" X.env (eval o X.env) = eval o X.env := by rfl)
    (hfew : ((backTo cpos (starEach [e] X.env)).all (fun x => !x.1) && (backToKw cpos (keywordEach [] X.env)).all (fun x => x.1.isSome)
      && decide (([e] : List Expr).length + ([] : List Keyword).length + (if ([] : List Keyword).isEmpty then 0 else 1) < 30)) = true := by rfl)
    (hline : (apos.endLine == cpos.line) = true := by rfl) (hs : starEach [e] X.env = (false, eval e X.env) :: starEach [] X.env := by rfl) (hsw : swapsWith (.Call (.Attribute o "append" apos) [e] [] cpos) none pos.line X.env = pure false := by rfl) (hK : X.K = K := by rfl) :
    PCX X K CA W (.Expr (.Call (.Attribute o "append" apos) [e] [] cpos) pos) (tDrop (tBM K "list" rAppend (tVar i) (tCons te tNil))) (cApp i f) := by
  subst hK
  exact ⟨ps_expr (pe_bm PySem.F.plainAttrs_list PySem.F.slot_list_append PySem.F.type_list_append mt_append h0.pe (pax1 h hs) hbase hfew hline hs rfl) hsw, dsc_app h.de⟩
theorem c_sto (i : Nat) (h0 : PX X K CA W o (tVar i) (cV i)) (hk : PX X K CA W ei tk fk) (h : PX X K CA W e te f)
    (ha : ∀ v, assign (.Subscript o ei apos) X.env v = (do
      let ov ← holding [v] (eval o X.env)
      let iv ← holding [v, ov] (eval ei X.env)
      standAt apos
      holding [v, ov, iv] (setItem ov iv v)
      release [v, ov, iv] []) := by intro _; rfl)
    (hs : swapsWithSole [.Subscript o ei apos] e pos.line X.env = pure false := by rfl) (hw : swappedStores [.Subscript o ei apos] e X.env = pure none := by rfl)
    (h1 : (assignEach [.Subscript o ei apos] X.env).map (·.2) = [assign (.Subscript o ei apos) X.env] := by rfl) :
    PCX X K CA W (.Assign [.Subscript o ei apos] e pos) (tAsg te (L2.gSub (tVar i) tk rSetL)) (cSto i fk f) := ⟨ps_asg h.pe (pg_sub h0.pe hk.pe set_list ha) hs hw h1, dsc_sto hk.de h.de⟩
theorem s_put (i : Nat) {k j : Nat} {x y : Str} {φ : List PV → PV → Option (List PV)} (G : DefP X.prog X.w K X.mg X.base k x φ) {A' : Around} (hr : Room j A') (hj : k ≤ j) (tk : Takes X W) (h0 : PX X K CA W (.Name y p2) (tVar i) (cV i)) (h : PX X K CA W e te f) (hA : A' = X.A := by rfl) (hg : Gl X x := by rfl) (hdb : (x == ("__debug__" : Str)) = false := by decide)
    (he : starEach [.Name y p2, e] X.env = (false, eval (.Name y p2) X.env) :: starEach [e] X.env := by rfl) (he2 : starEach [e] X.env = (false, eval e X.env) :: starEach [] X.env := by rfl) (hpl : (backTo cpos (starEach [e] X.env)).any (·.1) = false := by rfl)
    (hsw : swapsWith (.Call (.Name x p) [.Name y p2, e] [] cpos) none pos.line X.env = pure false := by rfl) (hK : X.K = K := by rfl) :
    PSX X K CA W (.Expr (.Call (.Name x p) [.Name y p2, e] [] cpos) pos) (tDrop (tCallS (spP K φ) (WE W) (tCons (tVar i) (tCons te tNil)))) (cPut φ i f) := by
  subst hK
  obtain ⟨fa, fd, ps, F, hm, hk, hb⟩ := G.ex
  subst hA
  exact ⟨ps_expr (pe_callS F (hr.mono hj) hg hm hk hb (fun σ => passAt tk σ) (pax2 h0 h he he2) hdb he hpl) hsw, ds_put h.de⟩
/-! lists of lists -/
theorem s_setG (i : Nat) {x : Str} {pos' : Pos} (hN : X.N.Nodup) (h : PX X K CA W e te f) (hi : X.N[i]? = some x := by rfl) (hx : Loc X.env.scope x := by first | exact Or.inl rfl | exact Or.inr rfl) (hs : swapsWith e (some (.Name x pos')) pos.line X.env = pure false := by rfl) (hf : X.fn x = true ∨ X.env.scope.names.lookup x = some .local := by first | exact .inl rfl | exact .inr rfl | assumption) :
    PSX X K CA W (.Assign [.Name x pos'] e pos) (tAsg te (gName i)) (cAsgG i f) := ⟨ps_set hN hi hx h.pe hs hf, ds_asgG h.de⟩
theorem s_appG (i : Nat) (h0 : PX X K CA W o (tVar i) (cV i)) (h : PX X K CA W e te f) (hbase : attributeBase o "append" X.env (eval o X.env) = eval o X.env := by rfl)
    (hfew : ((backTo cpos (starEach [e] X.env)).all (fun x => !x.1) && (backToKw cpos (keywordEach [] X.env)).all (fun x => x.1.isSome)
      && decide (([e] : List Expr).length + ([] : List Keyword).length + (if ([] : List Keyword).isEmpty then 0 else 1) < 30)) = true := by rfl)
    (hline : (apos.endLine == cpos.line) = true := by rfl) (hs : starEach [e] X.env = (false, eval e X.env) :: starEach [] X.env := by rfl) (hsw : swapsWith (.Call (.Attribute o "append" apos) [e] [] cpos) none pos.line X.env = pure false := by rfl) (hK : X.K = K := by rfl) :
    PSX X K CA W (.Expr (.Call (.Attribute o "append" apos) [e] [] cpos) pos) (tDrop (tBM K "list" rAppend (tVar i) (tCons te tNil))) (cAppG i f) := by
  subst hK
  exact ⟨ps_expr (pe_bm PySem.F.plainAttrs_list PySem.F.slot_list_append PySem.F.type_list_append mt_append h0.pe (pax1 h hs) hbase hfew hline hs rfl) hsw, ds_appG h.de⟩
theorem s_appL (i : Nat) {g : CF} (h0 : PX X K CA W o (tOp (rIx K) (tVar i) (tUn (rU fun i => .int (-i)) (tC (.int 1)))) g) (h : PX X K CA W e te f) (hbase : attributeBase o "append" X.env (eval o X.env) = eval o X.env := by rfl)
    (hfew : ((backTo cpos (starEach [e] X.env)).all (fun x => !x.1) && (backToKw cpos (keywordEach [] X.env)).all (fun x => x.1.isSome)
      && decide (([e] : List Expr).length + ([] : List Keyword).length + (if ([] : List Keyword).isEmpty then 0 else 1) < 30)) = true := by rfl)
    (hline : (apos.endLine == cpos.line) = true := by rfl) (hs : starEach [e] X.env = (false, eval e X.env) :: starEach [] X.env := by rfl) (hsw : swapsWith (.Call (.Attribute o "append" apos) [e] [] cpos) none pos.line X.env = pure false := by rfl) (hK : X.K = K := by rfl) :
    PSX X K CA W (.Expr (.Call (.Attribute o "append" apos) [e] [] cpos) pos) (tDrop (tBM K "list" rAppend (tOp (rIx K) (tVar i) (tUn (rU fun i => .int (-i)) (tC (.int 1)))) (tCons te tNil))) (cAppL i f) := by
  subst hK
  exact ⟨ps_expr (pe_bm PySem.F.plainAttrs_list PySem.F.slot_list_append PySem.F.type_list_append mt_append h0.pe (pax1 h hs) hbase hfew hline hs rfl) hsw, ds_appL h.de⟩
theorem sx_frzG (i : Nat) {sts : List Stmt} (h : PSsX X K CA W sts tS s) : PSsX X K CA W sts tS (cFrzG i s) := ⟨h.ps, ds_frzG h.ds⟩
end
section
variable {P : Program} {w : World} {K : PySem.W.Frag} {mg : Str → Option Value} {base : Heap} {CA : EvC}
theorem defP {x : Str} {st : Stmt} {N ps : List Str} {k : Nat} {s : CS} (T : FunAt K mg x st ps) (S : FnScope N ps (defScope st)) (hps : ps.length = 2) (hn : 2 ≤ N.length)
    (B : ∀ (X : Cx) (hX : ∃ (f : Addr) (cdv : Value) (A : Around) (outer : List Env) (s0 : Shared) (H : Hp) (E : XK), X = cxOf (L2.CX P w) P w K mg base N x (defScope st) f cdv A outer s0 H E), Room k X.A → ∀ E : XK, Takes X (fun cls d _ H => E cls d H) →
      PassesOwn (model X.prog X.w) X.A X.env X.xe → ∃ t, PCsX X K CA (fun cls d _ H => E cls d H) (defBody st) t s) : DefP P w K mg base (k + 1) x (fnP N.length s) := by
  obtain ⟨f, fd, F, hm, hb⟩ := T.ex
  refine ⟨⟨f, fd, ps, okP (CA := CA) F S hps hn fun cdv A outer s0 H E hr => ?_, hm, F.kp, hb⟩⟩
  obtain ⟨t, h⟩ := B _ ⟨f, cdv, A, outer, s0, H, E, rfl⟩ hr E (takes_of rfl rfl rfl rfl) (passes_of rfl)
  exact ⟨t, h.ps, h.ds⟩
end
end DD
/-! rows for simp: written lists of lists, a def that writes its argument -/
namespace DD
open PySem PySem.Spec L2
section
variable {f g h fk : CF} {s : CS} {ρ : Sl} {x y : PV} {xs ys : List PV} {xss : List (List PV)} {i : Nat} {c : Err} {ks : List DK}
@[simp] theorem fr_e {tg : CT} : fr tg s ρ (some (.e c)) = some (.ex c) := rfl
def asG (i : Nat) (ρ : Sl) : Option ER → Option Fl
  | some (.f []) => some (.nx (ρ.set i (.g [])))
  | some (.e c) => some (.ex c)
  | _ => none
@[simp] theorem asG_f : asG i ρ (some (.f [])) = some (.nx (ρ.set i (.g []))) := rfl
@[simp] theorem cAsgG_ap : cAsgG i f ρ = asG i ρ (f ρ) := rfl
def apG (i : Nat) (ρ : Sl) (o : Option ER) : Option Sl1 → Option Fl
  | some (.g xss) => (match o with
    | some (.f ys) => if xss.length < big then some (.nx (ρ.set i (.g (xss ++ [ys])))) else none
    | some (.e c) => some (.ex c)
    | _ => none)
  | _ => none
@[simp] theorem apG_f : apG i ρ (some (.f ys)) (some (.g xss)) = if xss.length < big then some (.nx (ρ.set i (.g (xss ++ [ys])))) else none := rfl
@[simp] theorem cAppG_ap : cAppG i f ρ = apG i ρ (f ρ) ρ[i]? := rfl
def apL (i : Nat) (ρ : Sl) (o : Option ER) : Option Sl1 → Option Fl
  | some (.g xss) => (match xss.getLast? with
    | some ys => lS (fun y => if ys.length < big then some (.nx (ρ.set i (.g (xss.dropLast ++ [ys ++ [y]])))) else none) o
    | none => none)
  | _ => none
@[simp] theorem apL_g {o : Option ER} : apL i ρ o (some (.g (xss ++ [ys]))) = lS (fun y => if ys.length < big then some (.nx (ρ.set i (.g (xss ++ [ys ++ [y]])))) else none) o := by simp [apL]
@[simp] theorem cAppL_ap : cAppL i f ρ = apL i ρ (f ρ) ρ[i]? := rfl
def fzG (i : Nat) (s : CS) (ρ : Sl) : Option Sl1 → Option Fl
  | some (.g xss) => s (ρ.set i (.d (.l (xss.map .l))))
  | some (.q ks xs) => s (ρ.set i (.d (.q false ks xs)))
  | some (.h ks xss) => s (ρ.set i (.d (.q true ks (xss.map .l))))
  | _ => none
@[simp] theorem fzG_g : fzG i s ρ (some (.g xss)) = s (ρ.set i (.d (.l (xss.map .l)))) := rfl
@[simp] theorem fzG_q : fzG i s ρ (some (.q ks xs)) = s (ρ.set i (.d (.q false ks xs))) := rfl
@[simp] theorem fzG_h : fzG i s ρ (some (.h ks xss)) = s (ρ.set i (.d (.q true ks (xss.map .l)))) := rfl
@[simp] theorem cFrzG_ap : cFrzG i s ρ = fzG i s ρ ρ[i]? := rfl
def stO (i : Nat) (ρ : Sl) (ok : Option ER) (o : Option ER) : Option Sl1 → Option Fl
  | some (.m xs) => lS (fun y => match ok with
    | some (.d (.i k)) => (match ixN xs.length k with
      | some j => some (.nx (ρ.set i (.m (xs.set j y))))
      | none => none)
    | _ => none) o
  | _ => none
@[simp] theorem cSto_ap : cSto i fk f ρ = stO i ρ (fk ρ) (f ρ) ρ[i]? := rfl
theorem set_last : (xs ++ [x]).set xs.length y = xs ++ [y] := by
  rw [List.set_append_right _ _ (Nat.le_refl _)]
  simp
@[simp] theorem stO_last : stO i ρ (some (.d (.i (-1)))) (some (.d y)) (some (.m (xs ++ [x]))) = some (.nx (ρ.set i (.m (xs ++ [y])))) := by
  have h : ixN (xs ++ [x]).length (-1) = some xs.length := by
    unfold ixN
    rw [if_neg (by decide), if_pos (by simp; omega)]
    congr 1
    simp
    omega
  simp only [stO, lS, h, set_last]
def ptO (φ : List PV → PV → Option (List PV)) (i : Nat) (ρ : Sl) (o : Option ER) : Option Sl1 → Option Fl
  | some (.m xs) => lS (fun y => (φ xs y).bind fun ys => some (.nx (ρ.set i (.m ys)))) o
  | _ => none
@[simp] theorem ptO_m {φ : List PV → PV → Option (List PV)} {o : Option ER} : ptO φ i ρ o (some (.m xs)) = lS (fun y => (φ xs y).bind fun ys => some (.nx (ρ.set i (.m ys)))) o := rfl
@[simp] theorem cPut_ap {φ : List PV → PV → Option (List PV)} : cPut φ i f ρ = ptO φ i ρ (f ρ) ρ[i]? := rfl
def finP : Option Fl → Option (List PV)
  | some (.nx ρ) => (match ρ[(0 : Nat)]? with
    | some (.m ys) => some ys
    | _ => none)
  | _ => none
@[simp] theorem finP_nx {ρ : Sl} : finP (some (.nx (.m ys :: ρ))) = some ys := rfl
theorem fnP_ap {n : Nat} : fnP n s xs x = finP (s (.m xs :: .d x :: List.replicate (n - 2) .u)) := rfl
end
theorem joinL_nil : ∀ ys : List (List Nat), TL.joinL [] ys = ys.flatten
  | [] => rfl
  | [y] => by simp [TL.joinL]
  | y :: z :: r => by
    have := joinL_nil (z :: r)
    simp only [TL.joinL, List.nil_append, this, List.flatten_cons]
theorem lensum_flat (ys : List (List Nat)) : lensum ys = ys.flatten.length := by
  rw [List.length_flatten]
end DD
/-! try .. except X as e -/
namespace DD
open PySem PySem.Spec L2
def Sl1.isX : Sl1 → Bool
  | .x _ => true
  | _ => false
def noX (ρ : Sl) : Bool := ρ.all fun s => !s.isX
/-- the errors' classes, while an error of the class cls stands at a -/
def EvC.at (CA : EvC) (a : Addr) (cls : Value) (d : Option Addr) : EvC := ⟨CA.ca, a, fun c => cls = .ref (CA c) ∧ d = none⟩
section
variable {K : PySem.W.Frag} {CA CA' : EvC} {W : WX} {te ta tb tc : TE} {f f1 f2 : CF} {F0 H0 F H : Hp} {σ : L2.St} {ρ : Sl} {D : Ends} {i : Nat} {c : Err}
theorem noX_at (h : noX ρ = true) (i : Nat) (c : Err) : ρ[i]? ≠ some (.x c) := fun e => by
  have := List.all_eq_true.mp h (.x c) (List.mem_of_getElem? e)
  cases this
theorem Rep.toCA (R : Rep K CA H0 F H σ ρ) (h : noX ρ = true) : Rep K CA' H0 F H σ ρ := ⟨R.len, R.sub, R.dat, fun i c e => absurd e (noX_at h i c), R.ow⟩
theorem Rep.setx (R : Rep K CA H0 F H σ ρ) (hc : CA.xc c) : Rep K CA H0 F H (σ.set i (some (.ref CA.xa))) (ρ.set i (.x c)) where
  len := by simp [R.len]
  sub := R.sub
  dat := fun j y e => by
    rcases set_get e with ⟨rfl, e2, hl⟩ | ⟨hn, e2⟩
    · cases e2
    · rw [set_off hn]; exact R.dat j y e2
  exn := fun j c' e => by
    rcases set_get e with ⟨rfl, e2, hl⟩ | ⟨hn, e2⟩
    · cases e2
      exact ⟨set_at (by rw [R.len]; exact hl), hc⟩
    · rw [set_off hn]; exact R.exn j c' e2
  ow := by
    obtain ⟨A, h1, h2, h3⟩ := R.ow
    refine ⟨A, h1, h2, fun j s e w => ?_⟩
    rcases set_get e with ⟨rfl, e2, hl⟩ | ⟨hn, e2⟩
    · subst e2; cases w
    · rw [set_off hn]; exact h3 j s e2 w
theorem Rep.setu (R : Rep K CA H0 F H σ ρ) : Rep K CA H0 F H (σ.set i none) (ρ.set i .u) := R.weak (by simp [R.len]) fun j s e => by
  rcases set_get e with ⟨rfl, e2, hl⟩ | ⟨hn, e2⟩
  · exact .inl e2
  · exact .inr ⟨e2, set_off hn⟩
/-- a statement whose errors leave the slots as they stood -/
def PostT (K : PySem.W.Frag) (CA : EvC) (W : WX) (F0 H0 : Hp) (D : Ends) (σ : L2.St) (ρ : Sl) : Fl → Prop
  | .nx ρ' => ∀ σ' H, At K CA F0 H0 ρ' σ' H → D.nx σ' H
  | .rt r => ∀ v F H, Gr F0 H0 F H → VOk K H0 F H v r → D.rt v H
  | .ex c => ∀ H, At K CA F0 H0 ρ σ H → W (.ref (CA c)) none σ H
  | _ => False
def DSx (K : PySem.W.Frag) (CA : EvC) (W : WX) (t : TS) (f : CS) : Prop := ∀ (F0 H0 : Hp) (σ : L2.St) (H : Hp) (ρ : Sl) (o : Fl) (D : Ends), At K CA F0 H0 ρ σ H → f ρ = some o → PostT K CA W F0 H0 D σ ρ o → t D σ H
theorem DE.atX {Q : VK} {r : ER} (h : DE K CA W te f) (A : At K CA F0 H0 ρ σ H) (hz : f ρ = some r)
    (k : ∀ F, Bs F0 H0 F H → Rep K CA H0 F H σ ρ → ∀ v F' H', Gr F H F' H' → VOk K H F' H' v r → Q v H') (he : ∀ c, r = .e c → ∀ H', At K CA F0 H0 ρ σ H' → W (.ref (CA c)) none σ H') : te σ H Q := by
  obtain ⟨F, b, R⟩ := A
  exact h H0 F H σ ρ r Q R hz (fun v F' H' g ok => k F b R v F' H' g ok) fun c e F' H' g => he c e H' ⟨F', b.up g, R.up g⟩
theorem dsx_ret (h : DE K CA W te f) : DSx K CA W (tRet te) (cRet f) := by
  intro F0 H0 σ H ρ o D A e P
  unfold cRet at e
  split at e
  · rename_i x h1
    cases e
    refine h.atX A h1 (fun F b R v F' H' g ok => ?_) (fun c e => by cases e)
    exact P v F' H' ((b.up g).gr g.s) ok
  · rename_i xs h1
    cases e
    refine h.atX A h1 (fun F b R v F' H' g ok => ?_) (fun c e => by cases e)
    exact P v F' H' ((b.up g).gr g.s) (ok.back b.h)
  · rename_i c h1
    cases e
    exact h.atX A h1 (fun F b R v F' H' g ok => ok.elim) (fun c' e H' A' => by cases e; exact P H' A')
  · cases e
theorem dsx_drop (h : DE K CA W te f) : DSx K CA W (tDrop te) (cDrop f) := by
  intro F0 H0 σ H ρ o D A e P
  unfold cDrop at e
  split at e
  · rename_i c h1
    cases e
    exact h.atX A h1 (fun F b R v F' H' g ok => ok.elim) (fun c' e H' A' => by cases e; exact P H' A')
  · rename_i r hn h1
    cases e
    refine h.atX A h1 (fun F b R v F' H' g ok => P _ _ ⟨F', b.up g, R.up g⟩) (fun c e => absurd e (by rintro rfl; exact hn c rfl))
  · cases e
theorem dsx_asg (h : DE K CA W te f) : DSx K CA W (tAsg te (gName i)) (cAsg i f) := by
  intro F0 H0 σ H ρ o D A e P
  unfold cAsg at e
  cases h1 : f ρ with
  | none => rw [h1] at e; cases e
  | some r =>
    rw [h1] at e
    cases r with
    | d x =>
      cases e
      exact h.atX A h1 (fun F b R v F' H' g ok => P _ _ ⟨F', b.up g, (R.up g).setd ok⟩) (fun c e => by cases e)
    | f xs =>
      cases e
      refine h.atX A h1 (fun F b R v F' H' g ok => ?_) (fun c e => by cases e)
      obtain ⟨F2, g2, hd⟩ := ok.frz g (.inr ⟨xs, rfl, rfl⟩)
      exact P _ _ ⟨F2, b.up g2, (R.up g2).setd hd⟩
    | e c =>
      cases e
      exact h.atX A h1 (fun F b R v F' H' g ok => ok.elim) (fun c' e H' A' => by cases e; exact P H' A')
    | m xs => cases e
/-- try: b / except .. as i: s -/
def cTry (i : Nat) (mt : Err → Option Bool) (b s : CS) : CS := fun ρ => match b ρ with
  | some (.ex c) => (match mt c with
    | some true => if noX ρ = true then (match s (ρ.set i (.x c)) with
      | some (.nx ρ') => if noX (ρ'.set i .u) = true then some (.nx (ρ'.set i .u)) else none
      | some (.rt r) => some (.rt r)
      | _ => none) else none
    | _ => none)
  | some (.nx ρ') => some (.nx ρ')
  | some (.rt r) => some (.rt r)
  | _ => none
theorem ds_try {cv : Value} {tb : WX → TS} {ts : Addr → Value → Option Addr → TS} {b s : CS} {mt : Err → Option Bool} (hm : ∀ c k, mt c = some k → PySem.W.exmOne K (.ref (CA c)) cv = some k) (hb : ∀ W, DSx K CA W (tb W) b)
    (hs : ∀ a cls d, DS K (CA.at a cls d) W0 (ts a cls d) s) : DS K CA W (fun D σ H => tb (wAs K cv i ts W D) D σ H) (cTry i mt b s) := by
  intro F0 H0 σ H ρ o D A e P
  unfold cTry at e
  split at e
  · rename_i c hbρ
    split at e
    · rename_i hmt
      split at e
      · rename_i hx
        refine hb _ F0 H0 σ H ρ (.ex c) D A hbρ fun H' A' => ?_
        refine ⟨true, hm c true hmt, fun _ a ha => ?_, fun q => nomatch q⟩
        have A2 : At K (CA.at a (.ref (CA c)) none) F0 H0 (ρ.set i (.x c)) (σ.set i (some (.ref a))) H' := by
          obtain ⟨F', b', R'⟩ := A'
          exact ⟨F', b', (R'.toCA hx).setx (CA := CA.at a (.ref (CA c)) none) ⟨rfl, rfl⟩⟩
        split at e
        · rename_i ρ' hsρ
          split at e
          · rename_i hx2
            cases e
            refine hs a _ _ F0 H0 _ H' _ _ _ A2 hsρ fun σ' H2 A3 => ?_
            obtain ⟨F3, b3, R3⟩ := A3
            exact P _ _ ⟨F3, b3, R3.setu.toCA hx2⟩
          · cases e
        · rename_i r hsρ
          cases e
          exact hs a _ _ F0 H0 _ H' _ _ _ A2 hsρ P
        · cases e
      · cases e
    · cases e
  · rename_i ρ' hbρ
    cases e
    exact hb _ F0 H0 σ H ρ _ D A hbρ P
  · rename_i r hbρ
    cases e
    exact hb _ F0 H0 σ H ρ _ D A hbρ P
  · cases e
/-! isinstance of the error that is handled -/
def rIsX (K : PySem.W.Frag) (cls : Value) (d : Option Addr) (a : Addr) : List V → Hp → VK → Prop := fun xs H Q => ∃ D, cls = .ref D ∧ d = none ∧ ExcC K D ∧ rIsE K D a xs H Q
theorem call_isX {X : Cx} {a : Addr} {oe : Obj} {cls : Value} {d : Option Addr} {pn : List (Addr × Obj)} (hz : Zc cls d oe) (hf : ∃ vs, oe.data = .fields vs) : CallR (X.suite a ((a, oe) :: pn)) (.builtin "isinstance") (rIsX X.K cls d a) := by
  intro pins s σ H xs us Q I r h
  obtain ⟨D, rfl, rfl, C, h⟩ := h
  exact call_isE C hz hf pins s σ H xs us Q I r h
def cIsX (i : Nat) (tab : Err → Option Bool) : CF := fun ρ => match ρ[i]? with
  | some (.x c) => (tab c).map fun b => .d (.b b)
  | _ => none
theorem de_isX {a : Addr} {cls : Value} {d : Option Addr} {cV : V} {cv : Value} {tab : Err → Option Bool} (hv : ∀ u, RelV cV u → u = cv) (ht : ∀ c k, tab c = some k → ExcC K (CA c) ∧ PySem.W.kitOne K (.ref (CA c)) cv = some k) :
    DE K (CA.at a cls d) W (tCB (rIsX K cls d a) (tCons (tVar i) (tCons (tC cV) tNil))) (cIsX i tab) := by
  intro H0 F H σ ρ z Q R hz hq he
  unfold cIsX at hz
  split at hz
  · rename_i c hi
    cases hk : tab c with
    | none => rw [hk] at hz; cases hz
    | some k =>
      rw [hk] at hz
      cases hz
      obtain ⟨h1, h2, h3⟩ := R.exn i c hi
      obtain ⟨hE, hkit⟩ := ht c k hk
      refine ⟨_, h1, CA c, h2, h3, hE, cV, cv, k, rfl, hv, hkit, hq _ F H (Gr.refl R.sub) (Dat.b _)⟩
  · cases hz
/-! a text, a list, so many times -/
def gMulS : PV → PV → Option ER
  | .s cs, .i n => if n.natAbs < 1073741824 ∧ cs.length * n.toNat ≤ big then some (.d (.s (List.replicate n.toNat cs).flatten)) else none
  | .l xs, .i n => if n.natAbs < 1073741824 ∧ xs.length * n.toNat ≤ big then some (.f (List.replicate n.toNat xs).flatten) else none
  | _, _ => none
def rMulT : R2 := fun x y H Q => ∃ cs n, x = .str ⟨cs.toArray⟩ ∧ y = .int n ∧ n.natAbs < 1073741824 ∧ cs.length * n.toNat ≤ big ∧ Q (.str ⟨(List.replicate n.toNat cs).flatten.toArray⟩) H
theorem foldl_arr (cs : List Nat) : ∀ (n : Nat) (acc : Array Nat), ((List.replicate n cs.toArray).foldl (· ++ ·) acc).toList = acc.toList ++ (List.replicate n cs).flatten
  | 0, acc => by simp
  | n + 1, acc => by
    rw [List.replicate_succ, List.foldl_cons, foldl_arr cs n, List.replicate_succ, List.flatten_cons]
    simp
theorem txt_mul (cs : List Nat) (n : Int) : Txt.mul ⟨cs.toArray⟩ n = ⟨(List.replicate n.toNat cs).flatten.toArray⟩ := by
  unfold Txt.mul
  by_cases h : n < 1
  · rw [if_pos h, show n.toNat = 0 by omega]
    rfl
  · rw [if_neg h]
    split
    · rename_i h1
      simp only [Bool.or_eq_true, beq_iff_eq] at h1
      rcases h1 with h1 | h1
      · subst h1
        simp
      · rw [str_len] at h1
        have : cs = [] := List.length_eq_zero_iff.mp h1
        subst this
        simp
    · congr 1
      have := foldl_arr cs n.toNat #[]
      apply Array.ext'
      rw [this]
      simp
theorem op_mulT {X : Cx} : OpR X (binaryOp .Mult) rMulT := by
  intro pins s σ H x y v u Q I rx ry h
  obtain ⟨cs, n, rfl, rfl, h1, h2, q⟩ := h
  obtain ⟨t, rfl⟩ := rx
  obtain ⟨t', rfl⟩ := ry
  refine PySem.SB.mul ⟨?_, fun h3 h4 => ?_, fun h3 h4 => ?_⟩ fun t2 k => ⟨.str _, H, I.tok _, ⟨t2, rfl⟩, ?_⟩
  · simp
    omega
  · rw [str_len]
    have e : (n.toNat : Int) = n := by omega
    have : ((cs.length : Int)) * n ≤ 16777216 := by
      unfold big at h2
      have : ((cs.length * n.toNat : Nat) : Int) ≤ 16777216 := by omega
      rw [Int.natCast_mul, e] at this
      exact this
    intro h5
    have h6 : (2 ^ 63 - 1) / n + 1 ≤ (cs.length : Int) := h5
    have h7 := Int.mul_le_mul_of_nonneg_right h6 (show 0 ≤ n by omega)
    have h8 := Int.lt_ediv_add_one_mul_self (2 ^ 63 - 1) (show 0 < n by omega)
    omega
  · rw [str_len]
    unfold Builtin.Str.tooLong
    unfold big at h2
    simp
    have := sizeLine_eq
    omega
  · rw [txt_mul]; exact q
def rMulSA : R2 := fun x y H Q => rMulT x y H Q ∨ rRep x y H Q
theorem Dats.rep {vs : List V} {xs : List PV} (h : Dats K F vs xs) : ∀ n, Dats K F (List.replicate n vs).flatten (List.replicate n xs).flatten
  | 0 => by simp; exact .nil
  | n + 1 => by
    rw [List.replicate_succ, List.replicate_succ, List.flatten_cons, List.flatten_cons]
    exact h.append (Dats.rep h n)
theorem op_mulSA : Op2 K rMulSA gMulS := by
  intro F H x y a b z Q s v1 v2 e k
  unfold gMulS at e
  split at e
  · split at e
    · rename_i cs n hl
      cases e
      exact .inl ⟨cs, n, v1.s, v2.i, hl.1, hl.2, k _ F H (Gr.refl s) (Dat.s _)⟩
    · cases e
  · split at e
    · rename_i xs n hl
      cases e
      obtain ⟨p, vs, rfl, h1, h2⟩ := v1.l s
      refine .inr ⟨p, n, vs, rfl, v2.i, h1, by omega, by omega, by rw [h2.length, big_eq]; exact hl.2, fun q hq => ?_⟩
      exact k _ F _ (Gr.new s hq) ⟨q, _, rfl, hq, s.free hq, upd_same, h2.rep _⟩
    · cases e
  · cases e
end
/-! ### rules -/
structure PXX (X : Cx) (K : PySem.W.Frag) (CA : EvC) (W : WX) (st : Stmt) (t : TS) (s : CS) : Prop where
  ps : PS X st t
  ds : DSx K CA W t s
section
variable {X : Cx} {K : PySem.W.Frag} {CA : EvC} {W : WX} {a b c e o : Expr} {ta tb tc te : TE} {fa fb fc f : CF} {pos p p2 p3 : Pos} {tt : TT} {st : Stmt} {A B : List Stmt} {tS tU : TS} {s u : CS}
theorem px_mulS (ha : PX X K CA W a ta fa) (hb : PX X K CA W b tb fb) : PX X K CA W (.BinOp a .Mult b pos) (tOp rMulSA ta tb) (c2 gMulS fa fb) := ⟨pe_op (OpR.or op_mulT op_rep) ha.pe hb.pe, de_2 op_mulSA ha.de hb.de⟩
theorem x_ret (h : PX X K CA W e te f) : PXX X K CA W (.Return (some e) pos) (tRet te) (cRet f) := ⟨ps_ret h.pe, dsx_ret h.de⟩
theorem x_set (i : Nat) {x : Str} {pos' : Pos} (hN : X.N.Nodup) (h : PX X K CA W e te f) (hi : X.N[i]? = some x := by rfl) (hx : Loc X.env.scope x := by first | exact Or.inl rfl | exact Or.inr rfl) (hs : swapsWith e (some (.Name x pos')) pos.line X.env = pure false := by rfl) (hf : X.fn x = true ∨ X.env.scope.names.lookup x = some .local := by first | exact .inl rfl | exact .inr rfl | assumption) :
    PXX X K CA W (.Assign [.Name x pos'] e pos) (tAsg te (gName i)) (cAsg i f) := ⟨ps_set hN hi hx h.pe hs hf, dsx_asg h.de⟩
theorem x_exp (h : PX X K CA W e te f) (hs : swapsWith e none pos.line X.env = pure false := by rfl) : PXX X K CA W (.Expr e pos) (tDrop te) (cDrop f) := ⟨ps_expr h.pe hs, dsx_drop h.de⟩
theorem s_try (i : Nat) {x n : Str} {cv : Value} {np pos' : Pos} {suite : List Stmt} {b0 : Stmt} {tb : WX → TS} {ts : Addr → Value → Option Addr → TS} (mt : Err → Option Bool) (hN : X.N.Nodup) (hg : X.mg x = some cv) (hm : ∀ c k, mt c = some k → PySem.W.exmOne K (.ref (CA c)) cv = some k) (tk : Takes X W)
    (hb : ∀ (W : WX) (pn : List (Addr × Obj)) (xe : Value → Shared → Prop), Takes (X.tr pn xe) W → PassesOwn (model X.prog X.w) X.A X.env xe → PXX (X.tr pn xe) K CA W st (tb W) s) (hd : ∀ W, DSx K CA W (tb W) s)
    (hsu : ∀ (a : Addr) (oe : Obj) (cls : Value) (d : Option Addr) (pn : List (Addr × Obj)), Zc cls d oe → (∃ vs, oe.data = .fields vs) → PSsX (X.suite a ((a, oe) :: pn)) K (CA.at a cls d) W0 (b0 :: suite) (ts a cls d) u)
    (hgl : Gl X x := by rfl) (hdb : (x == ("__debug__" : Str)) = false := by decide) (hs : X.stack = X.env :: X.outer := by rfl) (hf : X.env.frame = some X.env.locals := by rfl) (hi : X.N[i]? = some n := by rfl) (hln : X.env.kindOf n = some .local := by rfl) (hK : X.K = K := by rfl) :
    PSX X K CA W (.Try [st] [.ExceptHandler (some (.Name x np)) (some n) (b0 :: suite) pos'] [] [] pos) (fun D σ H => tb (wAs K cv i ts W D) D σ H) (cTry i mt s u) := by
  subst hK
  refine ⟨ps_try_as (tb := tb) hs hf hN hi hln ⟨hgl, hdb, .inl hg⟩ tk (fun W' pn xe tk' hp => pss_one (hb W' pn xe tk' hp).ps) (fun a oe cls d pn hz hf' => (hsu a oe cls d pn hz hf').ps), ds_try hm hd fun a cls d => (hsu a ⟨cls, d, .fields #[], #[]⟩ cls d [] ⟨rfl, rfl⟩ ⟨_, rfl⟩).ds⟩
theorem px_isX {oe : Obj} {a : Addr} {cls : Value} {d : Option Addr} {pn : List (Addr × Obj)} {T : Str} {cv : Value} (hz : Zc cls d oe) (hf : ∃ vs, oe.data = .fields vs) (i : Nat) {x : Str} (tab : Err → Option Bool) (hm : X.mg "isinstance" = none) (hT : X.mg T = some cv) {C : Addr} (hC : cv = .ref C)
    (ht : ∀ c k, tab c = some k → ExcC K (CA c) ∧ PySem.W.kitOne K (.ref (CA c)) cv = some k) (h0 : PX (X.suite a ((a, oe) :: pn)) K (CA.at a cls d) W (.Name x p2) (tVar i) (cV i)) (hgT : Gl X T := by rfl) (hg : Gl X "isinstance" := by rfl) (hdb : (T == ("__debug__" : Str)) = false := by decide)
    (hs : starEach [.Name x p2, .Name T p3] X.env = (false, eval (.Name x p2) X.env) :: starEach [.Name T p3] X.env := by rfl) (hK : X.K = K := by rfl) :
    PX (X.suite a ((a, oe) :: pn)) K (CA.at a cls d) W (.Call (.Name "isinstance" p) [.Name x p2, .Name T p3] [] pos) (tCB (rIsX K cls d a) (tCons (tVar i) (tCons (tC (.ref C)) tNil))) (cIsX i tab) := by
  subst hK hC
  exact ⟨pe_callB (call_isX hz hf) hg hm (by decide +kernel) (pa_cons h0.pe (pa_cons (pe_glob hgT hT rfl hdb) pa_nil rfl) hs) (by decide) (by decide) hs rfl, de_isX (fun u h => h) ht⟩
end
end DD
namespace DD
open PySem PySem.Spec L2
section
variable {X : Cx} {K : PySem.W.Frag} {CA : EvC} {W : WX} {a b c e o : Expr} {ta tb tc te : TE} {fa fb fc f : CF} {pos p p2 p3 : Pos}
theorem px_isXV {oe : Obj} {a : Addr} {cls : Value} {d : Option Addr} {pn : List (Addr × Obj)} {T : Str} {n : String} (hz : Zc cls d oe) (hf : ∃ vs, oe.data = .fields vs) (i : Nat) {x : Str} (tab : Err → Option Bool) (hm : X.mg "isinstance" = none) (hT : X.mg T = none)
    (ht : ∀ c k, tab c = some k → ExcC K (CA c) ∧ PySem.W.kitOne K (.ref (CA c)) (.type n) = some k) (h0 : PX (X.suite a ((a, oe) :: pn)) K (CA.at a cls d) W (.Name x p2) (tVar i) (cV i)) (hv : bootBuiltins T = some (.type n) := by decide +kernel) (hgT : Gl X T := by rfl) (hg : Gl X "isinstance" := by rfl) (hn : T ≠ "__name__" := by decide) (hdb : (T == ("__debug__" : Str)) = false := by decide)
    (hs : starEach [.Name x p2, .Name T p3] X.env = (false, eval (.Name x p2) X.env) :: starEach [.Name T p3] X.env := by rfl) (hK : X.K = K := by rfl) :
    PX (X.suite a ((a, oe) :: pn)) K (CA.at a cls d) W (.Call (.Name "isinstance" p) [.Name x p2, .Name T p3] [] pos) (tCB (rIsX K cls d a) (tCons (tVar i) (tCons (tC (.ty n)) tNil))) (cIsX i tab) := by
  subst hK
  exact ⟨pe_callB (call_isX hz hf) hg hm (by decide +kernel) (pa_cons h0.pe (pa_cons (pe_bltn (v := .ty n) hgT hT hv rfl hn hdb) pa_nil rfl) hs) (by decide) (by decide) hs rfl, de_isX (fun u h => h) ht⟩
end
/-! the facts of the top -/
structure ErrC (K : PySem.W.Frag) (mg : Str → Option Value) (x : Str) (C : Addr) : Prop where
  g : mg x = some (.ref C)
  q : PySem.W.excIn K C [.type "ValueError", .type "Exception", .type "BaseException", .type "object"] "ValueError.__new__" = true
  k : PySem.W.keepIn K (.ref C) = true
  b : PySem.W.subIn K (.ref C) (.type "BaseException") = some true
  t : PySem.W.typeIn K (.ref C) = some (.type "type")
def ErrC.addr {K : PySem.W.Frag} {mg : Str → Option Value} {x : Str} {C : Addr} (_ : ErrC K mg x C) : Addr := C
theorem ErrC.at {K : PySem.W.Frag} {mg : Str → Option Value} {x : Str} {C : Addr} (h : ErrC K mg x C) {CA : EvC} {c : Err} (e : CA c = C) : ErrAt K mg CA x c := by
  subst e
  exact ⟨h.g, h.q, h.k, h.b, h.t⟩
theorem errC_mk {K : PySem.W.Frag} {h : Heap} {mg : Str → Option Value} (X : K.In h) (G : h.Ns mainGlobals mg) {x : Str} {C : Addr} (a : PySem.W.nsIn K mainGlobals x = some (some (.ref C)))
    (q : PySem.W.excIn K C [.type "ValueError", .type "Exception", .type "BaseException", .type "object"] "ValueError.__new__" = true) (k : PySem.W.keepIn K (.ref C) = true) (b : PySem.W.subIn K (.ref C) (.type "BaseException") = some true) (t : PySem.W.typeIn K (.ref C) = some (.type "type")) :
    ErrC K mg x C := ⟨PySem.W.mg_of X G a, q, k, b, t⟩
structure ClsC (K : PySem.W.Frag) (mg : Str → Option Value) (x : Str) (C : Addr) : Prop where
  g : mg x = some (.ref C)
def ClsC.addr {K : PySem.W.Frag} {mg : Str → Option Value} {x : Str} {C : Addr} (_ : ClsC K mg x C) : Addr := C
theorem clsC_mk {K : PySem.W.Frag} {h : Heap} {mg : Str → Option Value} (X : K.In h) (G : h.Ns mainGlobals mg) {x : Str} {C : Addr} (a : PySem.W.nsIn K mainGlobals x = some (some (.ref C))) : ClsC K mg x C := ⟨PySem.W.mg_of X G a⟩
theorem excC_mk {K : PySem.W.Frag} {mg : Str → Option Value} {x : Str} {C : Addr} (e : ErrC K mg x C) (h1 : PySem.W.findIn K (.ref C) "__getattribute__" = some (some (.builtin "BaseException.__getattribute__"))) (h2 : PySem.W.findIn K (.ref C) "__getattr__" = some none) (h4 : PySem.W.hasDictIn K C = true)
    (h5 : PySem.W.findIn K (.ref C) "__class__" = some (some (.builtin "object.__class__"))) (h6 : PySem.W.specialIn K (.builtin "object.__class__") "__get__" = some (some (.builtin "getset_descriptor.__get__"))) (h7 : PySem.W.takesIn K (.builtin "object.__class__") = some true) (h8 : PySem.W.mroIn K C (.type "object") = some true) :
    ExcC K e.addr := ⟨h1, h2, e.b, h4, h5, h6, h7, h8⟩
theorem kitOne_of {K : PySem.W.Frag} {C D : Addr} {b : Bool} (hne : C ≠ D ∨ b = true) (hd : PySem.W.hasDictIn K D = true) (ht : PySem.W.typeIn K (.ref D) = some (.type "type")) (hs : PySem.W.subIn K (.ref C) (.ref D) = some b) : PySem.W.kitOne K (.ref C) (.ref D) = some b := by
  unfold PySem.W.kitOne
  by_cases h : (Value.ref C == Value.ref D) = true
  · rw [if_pos h]
    rcases hne with hne | hne
    · exact absurd (Value.ref.inj (beq_iff_eq.mp h)) hne
    · rw [hne]
  · rw [if_neg h]
    obtain ⟨cd, hc, _⟩ := PySem.W.any_some hd
    have e2 : ((PySem.W.clsIn K D).isSome && PySem.W.typeIn K (.ref D) == some (.type "type")) = true := by rw [hc, ht] <;> rfl
    show (if ((PySem.W.clsIn K D).isSome && PySem.W.typeIn K (.ref D) == some (.type "type")) = true then PySem.W.subIn K (.ref C) (.ref D) else none) = some b
    rw [if_pos e2]
    exact hs
theorem kit_mk {K : PySem.W.Frag} {mg : Str → Option Value} {x y : Str} {C D : Addr} (e : ErrC K mg x C) (d : ClsC K mg y D) (b : Bool) (hne : C ≠ D ∨ b = true) (hd : PySem.W.hasDictIn K D = true) (ht : PySem.W.typeIn K (.ref D) = some (.type "type")) (hs : PySem.W.subIn K (.ref C) (.ref D) = some b) :
    PySem.W.kitOne K (.ref e.addr) (.ref d.addr) = some b := kitOne_of hne hd ht hs
theorem kitV_mk {K : PySem.W.Frag} {mg : Str → Option Value} {x : Str} {C : Addr} (e : ErrC K mg x C) (n : String) (b : Bool) (hm : PySem.W.kitMeta n = true) (h : PySem.W.subIn K (.ref C) (.type n) = some b) : PySem.W.kitOne K (.ref e.addr) (.type n) = some b := by
  unfold PySem.W.kitOne
  rw [if_neg (by intro z; cases beq_iff_eq.mp z)]
  show (if PySem.W.kitMeta n = true then PySem.W.subIn K (.ref C) (.type n) else none) = some b
  rw [if_pos hm]
  exact h
theorem exm_mk {K : PySem.W.Frag} {mg : Str → Option Value} {x y : Str} {C D : Addr} (e : ErrC K mg x C) (d : ClsC K mg y D) (b : Bool) (hb : PySem.W.subIn K (.ref D) (.type "BaseException") = some true) (hd : PySem.W.hasDictIn K D = true) (ht : PySem.W.typeIn K (.ref D) = some (.type "type")) (hs : PySem.W.subIn K (.ref C) (.ref D) = some b) :
    PySem.W.exmOne K (.ref e.addr) (.ref d.addr) = some b := PySem.W.exm_ref hb hd ht hs
end DD
/-! rows for simp: try, texts and lists so many times -/
namespace DD
open PySem PySem.Spec L2
section
variable {f g : CF} {b s : CS} {ρ ρ' : Sl} {x y : PV} {xs ys : List PV} {cs : List Nat} {i : Nat} {c : Err} {n : Int} {r : ER} {mt tab : Err → Option Bool}
def trS (i : Nat) (o : Option Fl) : Option Fl := match o with
  | some (.nx ρ') => if noX (ρ'.set i .u) = true then some (.nx (ρ'.set i .u)) else none
  | some (.rt r) => some (.rt r)
  | _ => none
@[simp] theorem trS_nx : trS i (some (.nx ρ)) = if noX (ρ.set i .u) = true then some (.nx (ρ.set i .u)) else none := rfl
@[simp] theorem trS_rt : trS i (some (.rt r)) = some (.rt r) := rfl
def trO (i : Nat) (mt : Err → Option Bool) (s : CS) (ρ : Sl) (o : Option Fl) : Option Fl := match o with
  | some (.ex c) => (match mt c with
    | some true => if noX ρ = true then trS i (s (ρ.set i (.x c))) else none
    | _ => none)
  | some (.nx ρ') => some (.nx ρ')
  | some (.rt r) => some (.rt r)
  | _ => none
@[simp] theorem trO_nx : trO i mt s ρ (some (.nx ρ')) = some (.nx ρ') := rfl
@[simp] theorem trO_rt : trO i mt s ρ (some (.rt r)) = some (.rt r) := rfl
theorem trO_ex (h : mt c = some true) (hx : noX ρ = true) : trO i mt s ρ (some (.ex c)) = trS i (s (ρ.set i (.x c))) := by
  unfold trO
  simp only [h, hx, if_true]
theorem cTry_ap : cTry i mt b s ρ = trO i mt s ρ (b ρ) := rfl
def isXo (tab : Err → Option Bool) : Option Sl1 → Option ER
  | some (.x c) => (tab c).map fun b => .d (.b b)
  | _ => none
@[simp] theorem isXo_x : isXo tab (some (.x c)) = (tab c).map fun b => .d (.b b) := rfl
@[simp] theorem cIsX_ap : cIsX i tab ρ = isXo tab ρ[i]? := rfl
@[simp] theorem gMulS_s : gMulS (.s cs) (.i n) = if n.natAbs < 1073741824 ∧ cs.length * n.toNat ≤ big then some (.d (.s (List.replicate n.toNat cs).flatten)) else none := rfl
@[simp] theorem gMulS_l : gMulS (.l xs) (.i n) = if n.natAbs < 1073741824 ∧ xs.length * n.toNat ≤ big then some (.f (List.replicate n.toNat xs).flatten) else none := rfl
end
end DD
/-! a text in a text, find; max of a list; range down -/
namespace DD
open PySem PySem.Spec L2
/-! ### where a text stands in another -/
def occ (txt sub : List Nat) (i : Nat) : Bool := decide (i + sub.length ≤ txt.length) && ((txt.drop i).take sub.length == sub)
def firstOcc (txt sub : List Nat) : Option Nat := (List.range (txt.length + 1)).find? (occ txt sub)
def inC (txt sub : List Nat) : Bool := (firstOcc txt sub).isSome
def findI (txt sub : List Nat) : Int := match firstOcc txt sub with
  | some i => (i : Int)
  | none => -1
theorem subAt_list (txt sub : List Nat) (i : Nat) : Builtin.Str.subAt ⟨txt.toArray⟩ ⟨sub.toArray⟩ i = ((txt.drop i).take sub.length == sub) := by
  unfold Builtin.Str.subAt
  rw [str_len]
  have e : txt.toArray.extract i (i + sub.length) = ((txt.drop i).take sub.length).toArray := by
    apply Array.ext'
    rw [Array.toList_extract]
    simp [List.extract_eq_take_drop]
  show (txt.toArray.extract i (i + sub.length) == sub.toArray) = _
  rw [e]
  simp
theorem occ_one (s sub : Str) (hi : Nat) : ∀ (l : List Nat) (free : Nat), (∀ i ∈ l, free ≤ i) →
    (forIn l ((#[] : Array Nat), free) (StrLaws.occBody s sub hi 1)).run.fst.toList = (l.find? fun i => decide (i + sub.length ≤ hi) && Builtin.Str.subAt s sub i).toList
  | [], free, _ => by simp
  | a :: l, free, hf => by
    rw [List.forIn_cons]
    unfold StrLaws.occBody
    have ha : free ≤ a := hf a (List.mem_cons_self ..)
    by_cases hc : a + sub.length ≤ hi ∧ Builtin.Str.subAt s sub a = true
    · have c1 : (((#[] : Array Nat), free).fst.size < 1 ∧ ((#[] : Array Nat), free).snd ≤ a) ∧ a + sub.length ≤ hi := ⟨⟨by simp, ha⟩, hc.1⟩
      rw [if_pos ⟨c1, hc.2⟩]
      have hfull : ∀ (l : List Nat) (st : Array Nat × Nat), 1 ≤ st.fst.size → (forIn l st (StrLaws.occBody s sub hi 1)).run.fst = st.fst := by
        intro l
        induction l with
        | nil => intro st _; rfl
        | cons b l ih =>
          intro st h
          rw [List.forIn_cons]
          unfold StrLaws.occBody
          rw [if_neg (by rintro ⟨⟨⟨h1, _⟩, _⟩, _⟩; omega)]
          exact ih _ h
      have := hfull l ((#[] : Array Nat).push a, a + sub.length) (by simp)
      rw [List.find?_cons_of_pos (by simp [hc.1, hc.2])]
      show (forIn l ((#[] : Array Nat).push a, a + sub.length) (StrLaws.occBody s sub hi 1)).run.fst.toList = _
      rw [this]
      simp
    · have c2 : ¬ (((((#[] : Array Nat), free).fst.size < 1 ∧ ((#[] : Array Nat), free).snd ≤ a) ∧ a + sub.length ≤ hi) ∧ Builtin.Str.subAt s sub a = true) := fun h => hc ⟨h.1.2, h.2⟩
      rw [if_neg c2, List.find?_cons_of_neg (by simpa using hc)]
      exact occ_one s sub hi l free fun i hi' => hf i (List.mem_cons_of_mem _ hi')
theorem occs_list (txt sub : List Nat) : Builtin.Str.occurrences ⟨txt.toArray⟩ ⟨sub.toArray⟩ 0 (⟨txt.toArray⟩ : Str).length 1 = (firstOcc txt sub).toList := by
  rw [StrLaws.occ_eq, occ_one _ _ _ _ 0 (fun _ _ => Nat.zero_le _)]
  unfold firstOcc occ
  rw [str_len, str_len, Nat.sub_zero, List.range_eq_range']
  simp only [subAt_list]
section
variable {K : PySem.W.Frag} {CA : EvC} {W : WX} {te ta tb tc : TE} {f f1 f2 f3 : CF} {H0 F H : Hp} {σ : L2.St} {ρ : Sl}
def gInS : PV → PV → Option ER
  | .s sub, .s txt => some (.d (.b (inC txt sub)))
  | _, _ => none
def rInStr : R2 := fun x y H Q => ∃ i j, x = .str i ∧ y = .str j ∧ Q (.bl (!(Builtin.Str.occurrences j i 0 j.length 1).isEmpty)) H
theorem op_inSP : Op2 K rInStr gInS := by
  intro F H x y a b z Q s v1 v2 e k
  unfold gInS at e
  split at e
  · rename_i sub txt
    cases e
    refine ⟨_, _, v1.s, v2.s, ?_⟩
    rw [occs_list]
    have : (!(firstOcc txt sub).toList.isEmpty) = inC txt sub := by
      unfold inC
      cases firstOcc txt sub <;> rfl
    rw [this]
    exact k _ F H (Gr.refl s) (Dat.b _)
  · cases e
def gNInS : PV → PV → Option ER
  | .s sub, .s txt => some (.d (.b (!inC txt sub)))
  | _, _ => none
def rNInStr : R2 := fun x y H Q => ∃ i j, x = .str i ∧ y = .str j ∧ Q (.bl (!(!(Builtin.Str.occurrences j i 0 j.length 1).isEmpty))) H
theorem op_ninSP : Op2 K rNInStr gNInS := by
  intro F H x y a b z Q s v1 v2 e k
  unfold gNInS at e
  split at e
  · rename_i sub txt
    cases e
    refine ⟨_, _, v1.s, v2.s, ?_⟩
    rw [occs_list]
    have : (!(firstOcc txt sub).toList.isEmpty) = inC txt sub := by
      unfold inC
      cases firstOcc txt sub <;> rfl
    rw [this]
    exact k _ F H (Gr.refl s) (Dat.b _)
  · cases e
def gFind (txt : List Nat) : PV → Option ER
  | .s sub => some (.d (.i (findI txt sub)))
  | _ => none
def rFindS : V → List V → Hp → VK → Prop := fun x xs H Q => ∃ a b, x = .str a ∧ xs = [.str b] ∧ Q (.int (Txt.find a b)) H
theorem op_findP : OpM1 K rFindS gFind := by
  intro F H x y b z Q s v1 e k
  unfold gFind at e
  split at e
  · rename_i sub
    cases e
    refine ⟨_, _, rfl, by rw [v1.s], ?_⟩
    have : Txt.find ⟨x.toArray⟩ ⟨sub.toArray⟩ = findI x sub := by
      unfold Txt.find findI
      rw [occs_list]
      cases firstOcc x sub <;> rfl
    rw [this]
    exact k _ F H (Gr.refl s) (Dat.i _)
  · cases e
/-! ### max of a list -/
def maxL : List Int → Int
  | [] => 0
  | [x] => x
  | x :: y :: r => max x (maxL (y :: r))
theorem maxL_mem : ∀ {ns : List Int}, ns ≠ [] → maxL ns ∈ ns ∧ ∀ y ∈ ns, y ≤ maxL ns
  | [], h => absurd rfl h
  | [x], _ => by simp [maxL]
  | x :: y :: r, _ => by
    obtain ⟨h1, h2⟩ := maxL_mem (ns := y :: r) (by simp)
    simp only [maxL]
    refine ⟨?_, fun z hz => ?_⟩
    · by_cases h : x ≤ maxL (y :: r)
      · rw [Int.max_eq_right h]; exact List.mem_cons_of_mem _ h1
      · rw [Int.max_eq_left (by omega)]; exact List.mem_cons_self ..
    · rcases List.mem_cons.mp hz with rfl | hz
      · omega
      · have := h2 z hz; omega
def gMaxL : PV → Option ER
  | .l xs => (intsOf xs).bind fun ns => if ns = [] then none else some (.d (.i (maxL ns)))
  | _ => none
theorem op_maxL : Op1C K (rMax K) gMaxL := by
  intro F H x a z Q s v1 e k
  unfold gMaxL at e
  split at e
  · rename_i xs
    cases hi : intsOf xs with
    | none => rw [hi] at e; cases e
    | some ns =>
      rw [hi] at e
      dsimp only [Option.bind] at e
      split at e
      · cases e
      · rename_i hne
        cases e
        obtain ⟨p, vs, rfl, h1, h2⟩ := v1.l s
        rw [intsOf_eq hi] at h2
        rw [h2.ints] at h1
        obtain ⟨m1, m2⟩ := maxL_mem hne
        refine ⟨p, ns, rfl, SqL.of h1, List.length_pos_iff.mpr hne, fun m hm hm2 => ?_⟩
        have : m = maxL ns := by
          have h3 := hm2 _ m1
          have h4 := m2 m hm
          omega
        rw [this]
        exact k _ F H (Gr.refl s) (Dat.i _)
  · cases e
/-! ### range(a, b, -1) -/
def iRD (f1 f2 : CF) : CI := fun g ρ => e1 (fun x => e1 (fun y => match x, y with
  | .i a, .i b => if a.natAbs < lim ∧ b.natAbs < lim then g (steps a (-1) (a - b).toNat) else none
  | _, _ => none) (f2 ρ)) (f1 ρ)
theorem di_rd (h : DE K CA W ta f1) (h' : DE K CA W tb f2) (h'' : DE K CA W tc (c1 gNeg (cK (.i 1)))) : DI K CA W (iRng3 (tCons ta (tCons tb (tCons tc tNil)))) (iRD f1 f2) := by
  intro H0 F H σ ρ z g R Rp hz he k
  refine h.go Rp hz he fun x v F1 H1 g1 o1 e1 => ?_
  refine h'.go (Rp.up g1) e1 (fun c e F' H' gr => he c e F' H' (g1.trans gr)) fun y w F2 H2 g2 o2 e2 => ?_
  have g12 := g1.trans g2
  refine h'' H0 F2 H2 σ ρ (.d (.i (-1))) _ (Rp.up g12) rfl (fun w' F3 H3 g3 o3 => ?_) (fun c e => by cases e)
  split at e2
  · rename_i n m
    split at e2
    · rename_i hl
      unfold lim at hl
      refine ⟨n, m, -1, _, by rw [o1.i, o2.i, o3.va.i], RgC.neg (by omega) (by omega) (by omega) (by omega), k _ _ F3 H3 (g12.trans g3) (walks_steps n (-1) _) e2⟩
    · cases e2
  · cases e2
end
section
variable {X : Cx} {K : PySem.W.Frag} {CA : EvC} {W : WX} {a b c e o : Expr} {ta tb tc te : TE} {fa fb fc f : CF} {pos p p2 : Pos} {tg : Expr}
theorem px_ins (ha : PX X K CA W a ta fa) (hb : PX X K CA W b tb fb) (hm : behindInMarks .In b = false := by with_unfolding_all rfl) : PX X K CA W (.Compare a [.In] [b] pos) (tOp rInStr ta tb) (c2 gInS fa fb) := ⟨pe_cmpR op_in_str ha.pe hb.pe hm, de_2 op_inSP ha.de hb.de⟩
theorem pt_ins (ha : PX X K CA W a ta fa) (hb : PX X K CA W b tb fb) (hm : behindInMarks .In b = false := by with_unfolding_all rfl) : PTX X K CA W (.Compare a [.In] [b] pos) (tTest (tOp rInStr ta tb)) (c2 gInS fa fb) := ⟨pt_cmpR op_in_str ha.pe hb.pe hm, dt_test (px_ins (pos := pos) ha hb hm).de⟩
theorem px_nins (ha : PX X K CA W a ta fa) (hb : PX X K CA W b tb fb) (hm : behindInMarks .NotIn b = false := by with_unfolding_all rfl) : PX X K CA W (.Compare a [.NotIn] [b] pos) (tOp rNInStr ta tb) (c2 gNInS fa fb) := ⟨pe_cmpR op_notin_str ha.pe hb.pe hm, de_2 op_ninSP ha.de hb.de⟩
theorem pt_nins (ha : PX X K CA W a ta fa) (hb : PX X K CA W b tb fb) (hm : behindInMarks .NotIn b = false := by with_unfolding_all rfl) : PTX X K CA W (.Compare a [.NotIn] [b] pos) (tTest (tOp rNInStr ta tb)) (c2 gNInS fa fb) := ⟨pt_cmpR op_notin_str ha.pe hb.pe hm, dt_test (px_nins (pos := pos) ha hb hm).de⟩
theorem px_find (h : PX X K CA W o ta fa) (h2 : PX X K CA W e tb fb) {apos : Pos} (hs : starEach [e] X.env = [(false, eval e X.env)] := by rfl) (hbase : attributeBase o "find" X.env (eval o X.env) = eval o X.env := by rfl) (hline : (apos.endLine == pos.line) = true := by rfl) :
    PX X K CA W (.Call (.Attribute o "find" apos) [e] [] pos) (tM1 rFindS ta tb) (cM1 gFind fa fb) := ⟨pe_m1 PySem.F.slot_str_find PySem.F.type_str_find mt_find h.pe h2.pe hs hbase hline, de_m1 op_findP h.de h2.de⟩
theorem px_maxL (hc : X.calm = true) (hm : X.mg "max" = none) (h : PX X K CA W e te f) (hg : Gl X "max" := by rfl) (hs : starEach [e] X.env = (false, eval e X.env) :: starEach [] X.env := by rfl) (hK : X.K = K := by rfl) : PX X K CA W (.Call (.Name "max" p) [e] [] pos) (tCB (rMax K) (tCons te tNil)) (c1 gMaxL f) := by
  subst hK
  exact ⟨pe_callB (cr_max hc) hg hm (by decide +kernel) (pax1 h hs) (by decide) (by decide) hs rfl, de_B1 op_maxL h.de⟩
theorem pix_rd (hm : X.mg "range" = none) (h : PX X K CA W a ta fa) (h2 : PX X K CA W b tb fb) (h3 : PX X K CA W c tc (c1 gNeg (cK (.i 1)))) (hg : Gl X "range" := by rfl)
    (hs : starEach [a, b, c] X.env = (false, eval a X.env) :: starEach [b, c] X.env := by rfl) (hs2 : starEach [b, c] X.env = (false, eval b X.env) :: starEach [c] X.env := by rfl) (hs3 : starEach [c] X.env = (false, eval c X.env) :: starEach [] X.env := by rfl) (hpl : (backTo pos (starEach [b, c] X.env)).any (·.1) = false := by rfl) :
    PIX X K CA W tg (.Call (.Name "range" p) [a, b, c] [] pos) (iRng3 (tCons ta (tCons tb (tCons tc tNil)))) (iRD fa fb) :=
  ⟨pi_range3 hg hm (pa_cons h.pe (pa_cons h2.pe (pa_cons h3.pe pa_nil hs3) hs2) hs) hs hpl, di_rd h.de h2.de h3.de⟩
end
end DD
/-! rows for simp -/
namespace DD
open PySem PySem.Spec L2
section
variable {f g : CF} {ρ : Sl} {xs : List PV} {cs ds : List Nat} {a b : Int} {q : List PV → Option ER}
@[simp] theorem gInS_s : gInS (.s ds) (.s cs) = some (.d (.b (inC cs ds))) := rfl
@[simp] theorem gNInS_s : gNInS (.s ds) (.s cs) = some (.d (.b (!inC cs ds))) := rfl
@[simp] theorem gFind_s : gFind cs (.s ds) = some (.d (.i (findI cs ds))) := rfl
@[simp] theorem gMaxL_l : gMaxL (.l xs) = (intsOf xs).bind fun ns => if ns = [] then none else some (.d (.i (maxL ns))) := rfl
def uRD (q : List PV → Option ER) : PV → PV → Option ER
  | .i a, .i b => if a.natAbs < lim ∧ b.natAbs < lim then q (steps a (-1) (a - b).toNat) else none
  | _, _ => none
@[simp] theorem uRD_i : uRD q (.i a) (.i b) = if a.natAbs < lim ∧ b.natAbs < lim then q (steps a (-1) (a - b).toNat) else none := rfl
@[simp] theorem iRD_ap : iRD f g q ρ = e1 (fun x => e1 (uRD q x) (g ρ)) (f ρ) := rfl
end
end DD
/-! dicts whose keys are texts -/
namespace DD
open PySem PySem.Spec L2
def dLook {α : Type} (ks : List DK) (xs : List α) (k : DK) : Option α := ((ks.zip xs).find? fun p => decide (p.1 = k)).map (·.2)
theorem dLook_cons {α : Type} {k0 k : DK} {x : α} {ks : List DK} {xs : List α} : dLook (k0 :: ks) (x :: xs) k = if k0 = k then some x else dLook ks xs k := by
  unfold dLook
  rw [List.zip_cons_cons, List.find?_cons]
  by_cases h : k0 = k <;> simp [h]
theorem dLook_nil {α : Type} {k : DK} : dLook ([] : List DK) ([] : List α) k = none := rfl
theorem dLook_snoc {α : Type} {k k0 : DK} {x : α} : ∀ {ks : List DK} {xs : List α}, ks.length = xs.length → dLook (ks ++ [k0]) (xs ++ [x]) k = match dLook ks xs k with
    | some y => some y
    | none => if k0 = k then some x else none
  | [], [], _ => by
    rw [List.nil_append, List.nil_append, dLook_cons]
    split <;> simp [dLook_nil]
  | a :: ks, b :: xs, h => by
    rw [List.cons_append, List.cons_append, dLook_cons, dLook_cons, dLook_snoc (by simpa using h)]
    by_cases ha : a = k <;> simp [ha]
  | [], _ :: _, h => by simp at h
  | _ :: _, [], h => by simp at h
theorem inr_inj {a b : List Nat} : ((Sum.inr ⟨a.toArray⟩ : Key) = Sum.inr ⟨b.toArray⟩) ↔ a = b := by
  constructor
  · intro h
    injection h with h
    injection h with h
    simpa using h
  · intro h; rw [h]
theorem valV_s {c : List Nat} : ∀ {cs : List (List Nat)} {ws : List V}, cs.length = ws.length → valV ((cs.map fun c => (Sum.inr ⟨c.toArray⟩ : Key)).zip ws) (Sum.inr ⟨c.toArray⟩) = dLook (cs.map .s) ws (.s c)
  | [], [], _ => rfl
  | a :: cs, w :: ws, h => by
    rw [List.map_cons, List.map_cons, List.zip_cons_cons, dLook_cons]
    by_cases e : a = c
    · rw [if_pos (by rw [e]), valV_pos (by rw [e])]
    · rw [if_neg (by intro z; injection z with z; exact e z), valV_neg (by intro z; exact e (inr_inj.mp z)), valV_s (by simpa using h)]
  | [], _ :: _, h => by simp at h
  | _ :: _, [], h => by simp at h
section
variable {K : PySem.W.Frag} {CA : EvC} {W : WX} {te ta tb tc tk tv : TE} {f fk fv f1 f2 f3 : CF} {F0 H0 F H : Hp} {σ : L2.St} {ρ : Sl} {D : Ends} {i : Nat}
theorem Dats.look : ∀ {ks : List DK} {ws : List V} {xs : List PV} {k : DK}, Dats K F ws xs → ks.length = ws.length → (dLook ks xs k = none → dLook ks ws k = none) ∧ ∀ x, dLook ks xs k = some x → ∃ v, dLook ks ws k = some v ∧ Dat K F v x
  | [], [], [], _, .nil, _ => ⟨fun _ => rfl, fun x h => by cases h⟩
  | a :: ks, w :: ws, x :: xs, k, .cons h hs, hl => by
    obtain ⟨i1, i2⟩ := Dats.look (ks := ks) (k := k) hs (by simpa using hl)
    rw [dLook_cons, dLook_cons]
    by_cases e : a = k
    · rw [if_pos e, if_pos e]
      exact ⟨fun z => (by cases z), fun y hy => (by cases hy; exact ⟨w, rfl, h⟩)⟩
    · rw [if_neg e, if_neg e]
      exact ⟨i1, i2⟩
  | [], _ :: _, _, _, _, h => by simp at h
  | _ :: _, [], _, _, _, h => by simp at h
/-- x = {} -/
def cNewQ (i : Nat) : CS := fun ρ => some (.nx (ρ.set i (.q [] [])))
theorem ds_newQ : DS K CA W (tAsg tDNewK (gName i)) (cNewQ i) := by
  intro F0 H0 σ H ρ o D A e P
  cases e
  obtain ⟨F, b, R⟩ := A
  intro p hp
  have g := Gr.new (o := .dK []) R.sub hp
  refine P _ _ ⟨F, b.up g, (R.up g).setn (B := [p]) rfl ⟨p, _, [], rfl, rfl, upd_same, ⟨rfl, [], rfl, rfl⟩, .nil⟩ (fun a ha => ?_) ⟨F, R⟩ (fun a ha => ?_) g.h⟩
  · rw [List.mem_singleton.mp ha]; exact ⟨R.sub.free hp, b.h.free hp⟩
  · rw [List.mem_singleton.mp ha]; exact hp
/-- x.setdefault(k, v), for its own sake -/
def cSetd (i : Nat) (fk fv : CF) : CS := fun ρ => match ρ[i]? with
  | some (.q ks xs) => lS (fun k => lS (fun z => match k with
    | .s cs => if ks.length < big then (match dLook ks xs (.s cs) with
      | some _ => some (.nx (ρ.set i (.q ks xs)))
      | none => some (.nx (ρ.set i (.q (ks ++ [.s cs]) (xs ++ [z]))))) else none
    | _ => none) (fv ρ)) (fk ρ)
  | _ => none
theorem ds_setd (hk : DE K CA W tk fk) (hv : DE K CA W tv fv) : DS K CA W (tDrop (tDSetd (tVar i) tk tv)) (cSetd i fk fv) := by
  intro F0 H0 σ H ρ o D A e P
  unfold cSetd at e
  split at e
  · rename_i ks xs hi
    obtain ⟨F, b, R⟩ := A
    obtain ⟨v, B, e1, ⟨p, ob, ws, rfl, rfl, hp, hd, hs⟩, hB, _⟩ := R.write hi rfl
    obtain ⟨hl0, cs0, hks, hob⟩ := id hd
    refine ⟨.ref p, e1, p, rfl, .inl ⟨_, .inl (by rw [hp, hob])⟩, ?_⟩
    refine hk.atS ⟨F, b, R⟩ e (fun F1 b1 R1 kv k F2 H2 g2 hdk e2 => ?_) (fun c e => post_ex o e P)
    refine hv.atS ⟨F2, b1.up g2, R1.up g2⟩ e2 (fun F3 b3 R3 zv z F4 H4 g4 hdz e3 => ?_) (fun c e => post_ex o e P)
    split at e3
    · rename_i cs
      cases hdk
      split at e3
      · rename_i hlen
        obtain ⟨v', B, f1, ⟨p', ob', ws', ev, eB, hp', hd', hs'⟩, hB', wr⟩ := (R3.up g4).write hi rfl
        rw [e1] at f1
        cases f1
        cases ev
        subst eB
        obtain ⟨hl', cs', hks', hob'⟩ := id hd'
        have hcl : cs'.length = ws'.length := by rw [← hl', hks']; simp
        have hval := valV_s (c := cs) hcl
        rw [← hks'] at hval
        have hlook := hs'.look (ks := ks) (k := .s cs) hl'
        have hpp := hB' p (by simp)
        refine ⟨_, Sum.inr ⟨cs.toArray⟩, by rw [hp', hob'], rfl, by rw [List.length_zip, List.length_map, hcl, Nat.min_self, ← hl', big_eq]; exact hlen, fun w hw => ?_, fun hw => ?_⟩
        · split at e3
          · cases e3
            refine P _ _ ⟨F4, b3.up g4, ?_⟩
            have := wr F4 H4 (.q ks xs) [p] rfl (Same.refl _) (fun a o e _ => e) g4.s (fun _ _ e => .inl e) ⟨p, ob', ws', rfl, rfl, hp', hd', hs'⟩ (fun a ha => by rw [List.mem_singleton.mp ha]; exact ⟨hpp.2.1, hpp.2.2, .inl (by simp)⟩)
            exact this
          · rename_i hn
            have := hlook.1 hn
            rw [hval, this] at hw
            cases hw
        · split at e3
          · rename_i y hy
            obtain ⟨u, hu, _⟩ := hlook.2 y hy
            rw [hval, hu] at hw
            cases hw
          · cases e3
            rw [putK_new _ hw]
            have offp : ∀ a, a ≠ p → upd H4 p (.dK ((cs'.map fun c => (Sum.inr ⟨c.toArray⟩ : Key)).zip ws' ++ [(Sum.inr ⟨cs.toArray⟩, zv)])) a = H4 a := fun a ha => upd_ne ha
            refine P _ _ ⟨F4, (b3.up g4).off (B := [p]) (fun a ha => by rw [List.mem_singleton.mp ha]; exact hpp.2.2) (Same.refl _) (fun a o e n => by rw [offp a (by simpa using n)]; exact e) (fun _ _ e => .inl e), ?_⟩
            refine wr F4 _ (.q (ks ++ [.s cs]) (xs ++ [z])) [p] rfl (Same.refl _) (fun a o e n => by rw [offp a (by simpa using n)]; exact e) (fun a o e => ?_) (fun _ _ e => .inl e) ⟨p, _, ws' ++ [zv], rfl, rfl, upd_same, ⟨by simp [hl'], cs' ++ [cs], by rw [hks']; simp, ?_⟩, hs'.snoc hdz⟩ (fun a ha => by rw [List.mem_singleton.mp ha]; exact ⟨hpp.2.1, hpp.2.2, .inl (by simp)⟩)
            · rw [offp a (ne_of_none e hpp.2.1)]
              exact g4.s a o e
            · congr 1
              rw [List.map_append, List.map_singleton, List.zip_append (by simp [hcl])]
              rfl
      · cases e3
    · cases e3
  · cases e
/-- k in d -/
def gInD : PV → PV → Option ER
  | .s cs, .q false ks xs => some (.d (.b (dLook ks xs (.s cs)).isSome))
  | _, _ => none
theorem Val.q {v : V} {t : Bool} {ks : List DK} {xs : List PV} (s : Same F H) (h : Val K F H v (.q t ks xs)) : ∃ a o ws, v = .ref a ∧ H a = some o ∧ DictH F a t o ks ws ∧ Dats K F ws xs := by
  rcases h with h | ⟨_, _, _, _, e2, _⟩
  · cases h with
    | q h1 h2 h3 => exact ⟨_, _, _, rfl, s _ _ h1, h2, h3⟩
  · cases e2
theorem look_get {F : Hp} {a : Addr} {o : HO} {ks : List DK} {ws : List V} {cs : List Nat} (h : H a = some o) (hd : DictH F a false o ks ws) : DGet H a (.str ⟨cs.toArray⟩) (dLook ks ws (.s cs)) := by
  obtain ⟨hl, cs0, hks, ho⟩ := hd
  subst ho
  have := DGet.k (k := Sum.inr ⟨cs.toArray⟩) h
  rw [valV_s (by rw [← hl, hks]; simp), ← hks] at this
  exact this
theorem de_inD (ha : DE K CA W ta f1) (hb : DE K CA W tb f2) : DE K CA W (tDIn ta tb) (c2 gInD f1 f2) := by
  intro H0 F H σ ρ z Q R hz hq he
  refine ha.go R hz he fun x v F1 H1 g1 o1 h1 => ?_
  refine hb.go (R.up g1) h1 (fun c e F' H' gr => he c e F' H' (g1.trans gr)) fun y w F2 H2 g2 o2 h2 => ?_
  unfold gInD at h2
  split at h2
  · rename_i cs ks xs
    cases h2
    obtain ⟨a, o, ws, rfl, e1, e2, e3⟩ := o2.q g2.s
    refine ⟨a, dLook ks ws (.s cs), rfl, by rw [o1.s]; exact look_get e1 e2, ?_⟩
    have hl := e3.look (ks := ks) (k := .s cs) e2.1
    have : (dLook ks ws (.s cs)).isSome = (dLook ks xs (.s cs)).isSome := by
      cases h : dLook ks xs (.s cs) with
      | none => rw [hl.1 h]; rfl
      | some y => obtain ⟨u, hu, _⟩ := hl.2 y h; rw [hu]; rfl
    rw [this]
    exact hq _ F2 H2 (g1.trans g2) (Dat.b _)
  · cases h2
/-- d[k] -/
def gGetD : PV → PV → Option ER
  | .q false ks xs, .s cs => (dLook ks xs (.s cs)).map .d
  | _, _ => none
theorem de_getD (ha : DE K CA W ta f1) (hb : DE K CA W tb f2) : DE K CA W (tDGet ta tb) (c2 gGetD f1 f2) := by
  intro H0 F H σ ρ z Q R hz hq he
  refine ha.go R hz he fun x v F1 H1 g1 o1 h1 => ?_
  refine hb.go (R.up g1) h1 (fun c e F' H' gr => he c e F' H' (g1.trans gr)) fun y w F2 H2 g2 o2 h2 => ?_
  unfold gGetD at h2
  split at h2
  · rename_i ks xs cs
    obtain ⟨a, o, ws, rfl, e1, e2, e3⟩ := (o1.up g2).q g2.s
    cases hk : dLook ks xs (.s cs) with
    | none => rw [hk] at h2; cases h2
    | some y =>
      rw [hk] at h2
      cases h2
      obtain ⟨u, hu, hd⟩ := (e3.look (ks := ks) (k := .s cs) e2.1).2 y hk
      refine ⟨a, u, rfl, ?_, hq _ F2 H2 (g1.trans g2) hd⟩
      rw [o2.s, ← hu]
      exact look_get e1 e2
  · cases h2
end
section
variable {X : Cx} {K : PySem.W.Frag} {CA : EvC} {W : WX} {a b c e o ei : Expr} {ta tb tc te : TE} {fa fb fc f : CF} {pos p p2 : Pos} {apos cpos : Pos}
theorem s_newQ (i : Nat) {x : Str} {pos' pos2 : Pos} (hN : X.N.Nodup) (hi : X.N[i]? = some x := by rfl) (hx : Loc X.env.scope x := by first | exact Or.inl rfl | exact Or.inr rfl) (hs : swapsWith (.Dict [] [] pos2) (some (.Name x pos')) pos.line X.env = pure false := by rfl) (hf : X.fn x = true ∨ X.env.scope.names.lookup x = some .local := by first | exact .inl rfl | exact .inr rfl | assumption) :
    PSX X K CA W (.Assign [.Name x pos'] (.Dict [] [] pos2) pos) (tAsg tDNewK (gName i)) (cNewQ i) := ⟨ps_set hN hi hx pe_dnewK hs hf, ds_newQ⟩
theorem s_setd (i : Nat) (h0 : PX X K CA W o (tVar i) (cV i)) (hk : PX X K CA W a ta fa) (hv : PX X K CA W b tb fb) (hbase : attributeBase o "setdefault" X.env (eval o X.env) = eval o X.env := by rfl)
    (hfew : ((backTo cpos (starEach [a, b] X.env)).all (fun x => !x.1) && (backToKw cpos (keywordEach [] X.env)).all (fun x => x.1.isSome)
      && decide (([a, b] : List Expr).length + ([] : List Keyword).length + (if ([] : List Keyword).isEmpty then 0 else 1) < 30)) = true := by rfl)
    (hline : (apos.endLine == cpos.line) = true := by rfl) (htr : backTo cpos (starEach [a, b] X.env) = [(false, eval a X.env), (false, eval b X.env)] := by rfl) (hsw : swapsWith (.Call (.Attribute o "setdefault" apos) [a, b] [] cpos) none pos.line X.env = pure false := by rfl) :
    PSX X K CA W (.Expr (.Call (.Attribute o "setdefault" apos) [a, b] [] cpos) pos) (tDrop (tDSetd (tVar i) ta tb)) (cSetd i fa fb) := ⟨ps_expr (pe_dsetd h0.pe hk.pe hv.pe ⟨hbase, hfew, hline, htr⟩) hsw, ds_setd hk.de hv.de⟩
theorem px_ind {A' : Around} {j : Nat} (hr : Room j A') (ha : PX X K CA W a ta fa) (hb : PX X K CA W b tb fb) (hA : A'.units = X.A.units := by rfl) (hm : behindInMarks .In b = false := by with_unfolding_all rfl) : PX X K CA W (.Compare a [.In] [b] pos) (tDIn ta tb) (c2 gInD fa fb) :=
  ⟨pe_cmp (pc_din (by have := hr.units; omega) ha.pe hb.pe) hm, de_inD ha.de hb.de⟩
theorem pt_ind {A' : Around} {j : Nat} (hr : Room j A') (ha : PX X K CA W a ta fa) (hb : PX X K CA W b tb fb) (hA : A'.units = X.A.units := by rfl) (hm : behindInMarks .In b = false := by with_unfolding_all rfl) : PTX X K CA W (.Compare a [.In] [b] pos) (tB (tDIn ta tb)) (c2 gInD fa fb) :=
  ⟨pt_cmp (pc_din (by have := hr.units; omega) ha.pe hb.pe) hm, dt_B (de_inD ha.de hb.de)⟩
theorem px_getd {A' : Around} {j : Nat} (hr : Room j A') (ha : PX X K CA W o ta fa) (hb : PX X K CA W ei tb fb) (hA : A'.units = X.A.units := by rfl) (hs : NoSl ei := by intro _ _; rfl) : PX X K CA W (.Subscript o ei pos) (tDGet ta tb) (c2 gGetD fa fb) :=
  ⟨pe_dget (by have := hr.units; omega) ha.pe hb.pe hs, de_getD ha.de hb.de⟩
end
end DD
/-! rows for simp: dicts -/
namespace DD
open PySem PySem.Spec L2
section
variable {fk fv : CF} {ρ : Sl} {ks : List DK} {xs : List PV} {cs : List Nat} {i : Nat} {z : PV} {o : Option ER}
@[simp] theorem cNewQ_ap : cNewQ i ρ = some (.nx (ρ.set i (.q [] []))) := rfl
def sdO (i : Nat) (ρ : Sl) (ok ov : Option ER) : Option Sl1 → Option Fl
  | some (.q ks xs) => lS (fun k => lS (fun z => match k with
    | .s cs => if ks.length < big then (match dLook ks xs (.s cs) with
      | some _ => some (.nx (ρ.set i (.q ks xs)))
      | none => some (.nx (ρ.set i (.q (ks ++ [.s cs]) (xs ++ [z]))))) else none
    | _ => none) ov) ok
  | _ => none
@[simp] theorem cSetd_ap : cSetd i fk fv ρ = sdO i ρ (fk ρ) (fv ρ) ρ[i]? := rfl
theorem sdO_s (hl : ks.length < big) : sdO i ρ (some (.d (.s cs))) (some (.d z)) (some (.q ks xs)) = match dLook ks xs (.s cs) with
      | some _ => some (.nx (ρ.set i (.q ks xs)))
      | none => some (.nx (ρ.set i (.q (ks ++ [.s cs]) (xs ++ [z])))) := by
  show (if ks.length < big then _ else none) = _
  rw [if_pos hl]
@[simp] theorem gInD_s : gInD (.s cs) (.q false ks xs) = some (.d (.b (dLook ks xs (.s cs)).isSome)) := rfl
@[simp] theorem gGetD_s : gGetD (.q false ks xs) (.s cs) = (dLook ks xs (.s cs)).map .d := rfl
end
end DD
/-! dicts whose keys are tuples of ints, and of such a one and an int -/
namespace DD
open PySem PySem.Spec PyProof.Rows L2
theorem hashes_num (w : World) : ∀ ns : List Int, NestedKey.hashes w (ns.map .num) = ns.map hashInt
  | [] => rfl
  | n :: ns => by
    rw [List.map_cons, List.map_cons, ← hashes_num w ns]
    rfl
theorem depth_num : ∀ ns : List Int, NestedKey.depthAll (ns.map .num) = 0
  | [] => rfl
  | n :: ns => by
    have := depth_num ns
    rw [List.map_cons, NestedKey.depthAll, this]
    rfl
section
variable {P : Program} {w : World} {H H' : Hp} {h : Heap} {k k' : DK} {a b : Addr}
theorem nk_hash (w : World) (h : KeyAt H k a) : (nk k).hash w = hk k := by
  cases k with
  | s cs => exact h.elim
  | t ns =>
    show reduceHash (Builtin.Tuple.tupleHashOf (NestedKey.hashes w (ns.map .num))) = hkN ns
    rw [hashes_num]
    rfl
  | c ns x =>
    show reduceHash (Builtin.Tuple.tupleHashOf [reduceHash (Builtin.Tuple.tupleHashOf (NestedKey.hashes w (ns.map .num))), hashInt x]) = _
    rw [hashes_num]
    rfl
theorem nums_inj : ∀ {a b : List Int}, a.map NestedKey.num = b.map NestedKey.num → a = b
  | [], [], _ => rfl
  | x :: a, y :: b, h => by
    simp at h
    rw [h.1, nums_inj h.2]
  | [], _ :: _, h => by simp at h
  | _ :: _, [], h => by simp at h
theorem nk_inj (h : KeyAt H k a) (h' : KeyAt H' k' b) (e : nk k = nk k') : k = k' := by
  cases k with
  | s cs => exact h.elim
  | t ns =>
    cases k' with
    | s cs => exact h'.elim
    | t ms =>
      injection e with e
      rw [nums_inj e]
    | c ms x =>
      injection e with e
      cases ns with
      | nil => cases e
      | cons n ns =>
        injection e with e1 e2
        cases e1
  | c ns x =>
    cases k' with
    | s cs => exact h'.elim
    | t ms =>
      injection e with e
      cases ms with
      | nil => cases e
      | cons n ms =>
        injection e with e1 e2
        cases e1
    | c ms y =>
      injection e with e
      injection e with e1 e2
      injection e1 with e1
      injection e2 with e2 e3
      injection e2 with e2
      rw [nums_inj e1, e2]
theorem nall_nums {h : Heap} : ∀ {ns : List Int} {us : List Value}, Vals (ns.map V.int) us → NestedAll h (ns.map .num) us
  | [], _, .nil => .nil
  | n :: ns, _, .cons r t => by
    obtain ⟨t', rfl⟩ := (show ∃ t, _ = Value.int n t from r)
    exact .cons (.int _ _) (nall_nums t)
theorem tup_ok (ok : HOk P w H h) {xs : List V} (e : H a = some (.tup xs)) : ∃ its : List Value, Vals xs its ∧ ∃ o n, h.get? a = some o ∧ o.cls = .type "tuple" ∧ o.data = .seq its.toArray n := by
  obtain ⟨_, its, r, o, h1, h2, n, h3⟩ := (show ObjOk P w H h a (.tup xs) from ok a _ e)
  exact ⟨its, r, o, n, h1, h2, h3⟩
theorem nums_is (ok : HOk P w H h) {ns : List Int} (e : H a = some (.tup (ns.map V.int))) : NestedIs h (.tup (ns.map .num)) (.ref a) := by
  obtain ⟨its, r, o, n, h1, h2, h3⟩ := tup_ok ok e
  exact .tup h1 h2 h3 (by simpa using nall_nums r)
theorem key_is (ok : HOk P w H h) (e : KeyAt H k a) : (nestedKind P w).is h (nk k) a := by
  cases k with
  | s cs => exact e.elim
  | t ns =>
    refine ⟨nums_is ok e, ?_⟩
    show NestedKey.depthAll (ns.map .num) + 1 ≤ 8
    rw [depth_num]
    decide
  | c ns x =>
    obtain ⟨b, e1, e2⟩ := e
    obtain ⟨its, r, o, n, h1, h2, h3⟩ := tup_ok ok e1
    refine ⟨.tup h1 h2 h3 ?_, ?_⟩
    · cases r with
      | cons r1 r2 =>
        cases r2 with
        | cons r3 r4 =>
          cases r4
          obtain ⟨t', rfl⟩ := (show ∃ t, _ = Value.int x t from r3)
          rw [show _ = Value.ref b from r1]
          exact .cons (nums_is ok e2) (.cons (.int _ _) .nil)
    · show max (NestedKey.depthAll (ns.map .num) + 1) (max 0 0) + 1 ≤ 8
      rw [depth_num]
      decide
end
/-- the entries as the library has them -/
def xsN : List DK → List Addr → List Value → List (NestedKey × Addr × Value)
  | k :: ks, a :: as, u :: us => (nk k, a, u) :: xsN ks as us
  | _, _, _ => []
theorem xsN_ent {P : Program} {w : World} {H : Hp} : ∀ {ks : List DK} {as : List Addr} {us : List Value}, KeysAt H ks as → (xsN ks as us).map (entryOfKey (nestedKind P w)) = entN ks as us
  | k :: ks, a :: as, u :: us, ⟨h, r⟩ => by
    rw [xsN, entN, List.map_cons, xsN_ent r]
    congr 1
    show (⟨(nk k).hash w, .ref a, u⟩ : DictEntry) = _
    rw [nk_hash w h]
  | [], [], _, _ => rfl
  | _ :: _, _ :: _, [], _ => rfl
  | [], _ :: _, _, r => r.elim
  | _ :: _, [], _, r => r.elim
theorem xsN_len : ∀ {ks : List DK} {as : List Addr} {us : List Value}, ks.length = as.length → ks.length = us.length → (xsN ks as us).length = ks.length
  | [], [], [], _, _ => rfl
  | k :: ks, a :: as, u :: us, h1, h2 => by
    rw [xsN, List.length_cons, xsN_len (by simpa using h1) (by simpa using h2)]
    rfl
  | [], _ :: _, _, h, _ => by simp at h
  | [], [], _ :: _, _, h => by simp at h
  | _ :: _, [], _, h, _ => by simp at h
  | _ :: _, _ :: _, [], _, h => by simp at h
theorem xsN_mem {H : Hp} : ∀ {ks : List DK} {as : List Addr} {us : List Value} {x : NestedKey × Addr × Value}, KeysAt H ks as → x ∈ xsN ks as us → ∃ k ∈ ks, x.1 = nk k ∧ KeyAt H k x.2.1
  | k :: ks, a :: as, u :: us, x, ⟨h, r⟩, hx => by
    rw [xsN] at hx
    rcases List.mem_cons.mp hx with rfl | hx
    · exact ⟨k, by simp, rfl, h⟩
    · obtain ⟨k', h1, h2⟩ := xsN_mem r hx
      exact ⟨k', by simp [h1], h2⟩
  | [], [], _, _, _, h => by simp [xsN] at h
  | _ :: _, _ :: _, [], _, _, h => by simp [xsN] at h
  | [], _ :: _, _, _, r, _ => r.elim
  | _ :: _, [], _, _, r, _ => r.elim
theorem xsN_nodup {H : Hp} : ∀ {ks : List DK} {as : List Addr} {us : List Value}, KeysAt H ks as → ks.Nodup → ((xsN ks as us).map (·.1)).Nodup
  | k :: ks, a :: as, u :: us, ⟨h, r⟩, nd => by
    rw [List.nodup_cons] at nd
    rw [xsN, List.map_cons, List.nodup_cons]
    refine ⟨fun hm => ?_, xsN_nodup r nd.2⟩
    obtain ⟨x, hx, e⟩ := List.mem_map.mp hm
    obtain ⟨k', h1, h2, h3⟩ := xsN_mem r hx
    have := nk_inj h3 h (h2.symm.trans e)
    subst this
    exact nd.1 h1
  | [], [], _, _, _ => List.nodup_nil
  | _ :: _, _ :: _, [], _, _ => List.nodup_nil
  | [], _ :: _, _, r, _ => r.elim
  | _ :: _, [], _, r, _ => r.elim
theorem atKey_cons {k0 k : NestedKey} {p : Addr × Value} {xs : List (NestedKey × Addr × Value)} : atKey ((k0, p) :: xs) k = if k0 = k then some p else atKey xs k := by
  unfold atKey
  rw [List.find?_cons]
  by_cases h : k0 = k <;> simp [h]
theorem atKey_xsN {H H' : Hp} {k : DK} {b : Addr} (hk : KeyAt H k b) : ∀ {ks : List DK} {as : List Addr} {us : List Value}, KeysAt H' ks as → ks.length = us.length → (atKey (xsN ks as us) (nk k)).map (·.2) = dLook ks us k
  | k' :: ks, a :: as, u :: us, ⟨h, r⟩, hl => by
    rw [xsN, atKey_cons, dLook_cons]
    by_cases e : k' = k
    · subst e
      rw [if_pos rfl, if_pos rfl]
      rfl
    · rw [if_neg e, if_neg (fun z => e (nk_inj h hk z)), atKey_xsN hk r (by simpa using hl)]
  | [], [], [], _, _ => rfl
  | [], [], _ :: _, _, h => by simp at h
  | _ :: _, _ :: _, [], _, h => by simp at h
  | [], _ :: _, _, r, _ => r.elim
  | _ :: _, [], _, r, _ => r.elim
theorem look_vals {k : DK} : ∀ {ks : List DK} {ws : List V} {us : List Value}, Vals ws us → ks.length = ws.length → (dLook ks ws k = none ∧ dLook ks us k = none) ∨ ∃ v u, dLook ks ws k = some v ∧ dLook ks us k = some u ∧ RelV v u
  | [], [], _, .nil, _ => .inl ⟨rfl, rfl⟩
  | k' :: ks, w :: ws, _, .cons r t, hl => by
    rw [dLook_cons, dLook_cons]
    by_cases e : k' = k
    · rw [if_pos e, if_pos e]
      exact .inr ⟨_, _, rfl, rfl, r⟩
    · rw [if_neg e, if_neg e]
      exact look_vals t (by simpa using hl)
  | [], _ :: _, _, _, h => by simp at h
  | _ :: _, [], _, _, h => by simp at h
section
variable {X : Cx} {pins : List (Addr × Obj)} {σ : L2.St} {H : Hp} {s : Shared} {a : Addr} {ks : List DK} {as : List Addr} {ws : List V}
theorem dn_at (I : Inv X pins σ H s) (e : H a = some (dN a ks as ws)) (ka : KeysAt H ks as) (nd : ks.Nodup) : ∃ us, Vals ws us ∧ s.heap.DictOfH (nestedKind X.prog X.w) a (xsN ks as us) := by
  obtain ⟨us, o, es, ep, h1, h2, h3, h4, h5⟩ := (I.hok a _ e).1
  refine ⟨us, h1, o, es, ep, h2, h3, h4, by rw [h5, xsN_ent ka], fun x hx => ?_, xsN_nodup ka nd⟩
  obtain ⟨k, _, e1, e2⟩ := xsN_mem ka hx
  rw [e1]
  exact key_is I.hok e2
theorem dn_ok {P : Program} {w : World} {h : Heap} {us : List Value} (hv : Vals ws us) (dd : h.DictOfH (nestedKind P w) a (xsN ks as us)) (ka : KeysAt H ks as) : ObjOk P w H h a (dN a ks as ws) := by
  obtain ⟨o, es, ep, h1, h2, h3, h4, _⟩ := dd
  refine ⟨⟨us, o, es, ep, hv, h1, h2, h3, by rw [h4, xsN_ent ka]⟩, ⟨o, h1⟩, fun h1 h2 p k => ?_⟩
  obtain ⟨us, o, es, ep, q1, q2, q3⟩ := p
  exact ⟨us, o, es, ep, q1, k _ q2, q3⟩
end
theorem keysAt_off {H H' : Hp} (h : ∀ c xs, H c = some (.tup xs) → H' c = some (.tup xs)) : ∀ {ks : List DK} {as : List Addr}, KeysAt H ks as → KeysAt H' ks as
  | [], [], _ => trivial
  | k :: _, _ :: _, ⟨q, r⟩ => by
    refine ⟨?_, keysAt_off h r⟩
    cases k with
    | s cs => exact q
    | t ns => exact h _ _ q
    | c ns x => obtain ⟨b, h1, h2⟩ := q; exact ⟨b, h _ _ h1, h _ _ h2⟩
  | [], _ :: _, r => r.elim
  | _ :: _, [], r => r.elim
/-- {} -/
def tDNewN : TE := fun _ H Q => ∀ p, H p = none → (p == sysModules) = false → Q (.ref p) (upd H p (dN p [] [] []))
def tDGetN (td ty tx : TE) : TE := fun σ H Q => td σ H fun x H1 => ∃ a ks as ws, x = .ref a ∧ H1 a = some (dN a ks as ws) ∧ KeysAt H1 ks as ∧ ks.Nodup ∧ (a == sysModules) = false ∧ ty σ H1 fun y H2 => tx σ H2 fun z H3 =>
  ∃ b k ks as ws, y = .ref b ∧ KeyAt H3 k b ∧ H3 a = some (dN a ks as ws) ∧ KeysAt H3 ks as ∧ ks.Nodup ∧ ks.length = ws.length ∧ Q ((dLook ks ws k).getD z) H3
def tDSetdN (td ty tx : TE) : TE := fun σ H Q => td σ H fun x H1 => ∃ a ks as ws, x = .ref a ∧ H1 a = some (dN a ks as ws) ∧ KeysAt H1 ks as ∧ ks.Nodup ∧ (a == sysModules) = false ∧ ty σ H1 fun y H2 => tx σ H2 fun z H3 =>
  ∃ b k ks as ws, y = .ref b ∧ KeyAt H3 k b ∧ H3 a = some (dN a ks as ws) ∧ KeysAt H3 ks as ∧ ks.Nodup ∧ ks.length = ws.length ∧ ks.length < sizeLine ∧
    (∀ v, dLook ks ws k = some v → Q v H3) ∧ (dLook ks ws k = none → Q z (upd H3 a (dN a (ks ++ [k]) (as ++ [b]) (ws ++ [z]))))
section
variable {X : Cx} {o e f : Expr} {td ty tx : TE} {apos cpos pos : Pos}
theorem pe_dnewN : PE X (.Dict [] [] pos) tDNewN := ⟨fun pins s σ H Q I h =>
  wpAny_Dict_empty ⟨.ref s.heap.objs.size, _, I.laid (a := s.heap.objs.size) (o := dN s.heap.objs.size [] [] []) (t' := s.toks) (fun _ _ q => Heap.get?_push_of_some _ q) (Nat.le_refl _)
    ⟨⟨[], _, #[], 0, .nil, Heap.get?_push_size _ rfl, ⟨rfl, rfl, rfl⟩, rfl, rfl⟩, ⟨_, Heap.get?_push_size _ rfl⟩, fun _ _ p k => by
      obtain ⟨us, o, es, ep, q1, q2, q3⟩ := p
      exact ⟨us, o, es, ep, q1, k _ q2, q3⟩⟩, rfl, h _ (I.hok.fresh (Nat.le_refl _)) (beq_eq_false_iff_ne.mpr (Ne.symm (Nat.ne_of_lt I.big)))⟩⟩
theorem pe_dgetN (hu : X.A.units + 9 < cLine) (ho : PE X o td) (he : PE X e ty) (hf : PE X f tx) (m : M2 X o "get" apos e f cpos) : PE X (.Call (.Attribute o "get" apos) [e, f] [] cpos) (tDGetN td ty tx) := by
  refine ⟨fun pins s σ H Q I h => ?_⟩
  refine wpAny_Call_method m.base m.few m.line PySem.F.plainAttrs_dict PySem.F.slot_dict_get PySem.F.type_dict_get (thn (ho.run pins s σ H _ I h) fun u s1 ⟨x, H1, I1, rx, a, ks, as, ws, ex, e1, ka, nd, hs, q1⟩ => ?_)
  subst ex
  obtain rfl : u = Value.ref a := rx
  obtain ⟨us, hv, dd⟩ := dn_at I1 e1 ka nd
  refine ⟨dd.typeIs, fun b q => ?_, ?_⟩
  · cases q
    obtain ⟨ob, _, _, h1, h2, _⟩ := dd
    exact ⟨ob, h1, h2.2.1⟩
  rw [m.trees]
  refine Calls.callWith_builtin rfl (Calls.evalArgs_plain (Calls.spliced_cons (thn (he.run pins s1 σ H1 _ I1 q1) fun iv s2 ⟨y, H2, I2, ry, q2⟩ =>
    Calls.spliced_cons (thn (hf.run pins s2 σ H2 _ I2 q2) fun fv s3 ⟨z, H3, I3, rz, b, k, ks', as', ws', ey, hk, e3, ka', nd', hl, q3⟩ => Calls.spliced_nil ?_))))
  subst ey
  obtain rfl : iv = Value.ref b := ry
  obtain ⟨us', hv', dd'⟩ := dn_at I3 e3 ka' nd'
  refine call_meetsIn PySem.F.slot_dict_get dd'.typeIs PySem.F.entry_dict_get (PySem.F.args_dict_get_3 _ _ _) (meetsH_dict_get_default (nestedKind X.prog X.w) a b hs fv)
    ⟨by show X.A.units + 1 + 8 < cLine; omega, nk k, _, key_is I3.hok hk, dd', _, H3, I3.tok _, ?_, q3⟩
  have e := atKey_xsN hk ka' (us := us') (by rw [hl, hv'.length])
  rw [e]
  rcases look_vals (k := k) hv' hl with ⟨n1, n2⟩ | ⟨v, u, n1, n2, r⟩
  · rw [n1, n2]; exact rz
  · rw [n1, n2]; exact r
theorem pe_dsetdN (hu : X.A.units + 9 < cLine) (ho : PE X o td) (he : PE X e ty) (hf : PE X f tx) (m : M2 X o "setdefault" apos e f cpos) : PE X (.Call (.Attribute o "setdefault" apos) [e, f] [] cpos) (tDSetdN td ty tx) := by
  refine ⟨fun pins s σ H Q I h => ?_⟩
  refine wpAny_Call_method m.base m.few m.line PySem.F.plainAttrs_dict PySem.F.slot_dict_setdefault PySem.F.type_dict_setdefault (thn (ho.run pins s σ H _ I h) fun u s1 ⟨x, H1, I1, rx, a, ks, as, ws, ex, e1, ka, nd, hs, q1⟩ => ?_)
  subst ex
  obtain rfl : u = Value.ref a := rx
  obtain ⟨us, hv, dd⟩ := dn_at I1 e1 ka nd
  refine ⟨dd.typeIs, fun b q => ?_, ?_⟩
  · cases q
    obtain ⟨ob, _, _, h1, h2, _⟩ := dd
    exact ⟨ob, h1, h2.2.1⟩
  rw [m.trees]
  refine Calls.callWith_builtin rfl (Calls.evalArgs_plain (Calls.spliced_cons (thn (he.run pins s1 σ H1 _ I1 q1) fun iv s2 ⟨y, H2, I2, ry, q2⟩ =>
    Calls.spliced_cons (thn (hf.run pins s2 σ H2 _ I2 q2) fun fv s3 ⟨z, H3, I3, rz, b, k, ks', as', ws', ey, hk, e3, ka', nd', hl, hsz, q3, q4⟩ => Calls.spliced_nil ?_))))
  subst ey
  obtain rfl : iv = Value.ref b := ry
  obtain ⟨us', hv', dd'⟩ := dn_at I3 e3 ka' nd'
  have hul : ks'.length = us'.length := by rw [hl, hv'.length]
  have e := atKey_xsN hk ka' (us := us') hul
  refine call_setdefault_heap (knd := nestedKind X.prog X.w) (xs := xsN ks' as' us') (k := nk k) (by show X.A.units + 1 + 8 < cLine; omega) (key_is I3.hok hk) hs dd' (fun p hp => ?_) (fun hn h' dd2 hsb => ?_)
    (by rw [xsN_len ka'.length hul]; omega)
  · rw [hp] at e
    rcases look_vals (k := k) hv' hl with ⟨n1, n2⟩ | ⟨v, u, n1, n2, r⟩
    · rw [n2] at e; cases e
    · rw [n2] at e
      injection e with e
      rw [show p.2 = u from e]
      exact ⟨v, H3, I3.tok _, r, q3 v n1⟩
  · rw [hn] at e
    rcases look_vals (k := k) hv' hl with ⟨n1, n2⟩ | ⟨v, u, n1, n2, r⟩
    · rw [storedH_new hn] at dd2
      have ex : xsN ks' as' us' ++ [(nk k, b, fv)] = xsN (ks' ++ [k]) (as' ++ [b]) (us' ++ [fv]) := by
        have key : ∀ {ks : List DK} {as : List Addr} {us : List Value}, ks.length = as.length → ks.length = us.length → xsN ks as us ++ [(nk k, b, fv)] = xsN (ks ++ [k]) (as ++ [b]) (us ++ [fv]) := by
          intro ks
          induction ks with
          | nil =>
            intro as us h1 h2
            cases as with
            | nil =>
              cases us with
              | nil => rfl
              | cons _ _ => simp at h2
            | cons _ _ => simp at h1
          | cons k0 ks ih =>
            intro as us h1 h2
            cases as with
            | nil => simp at h1
            | cons a0 as =>
              cases us with
              | nil => simp at h2
              | cons u0 us =>
                have := ih (as := as) (us := us) (by simpa using h1) (by simpa using h2)
                simp only [xsN, List.cons_append, this]
        exact key ka'.length hul
      rw [ex] at dd2
      have he : ∃ q, h'.get? a = some q := let ⟨q, _, _, hq, _⟩ := dd2; ⟨q, hq⟩
      refine ⟨z, _, d_write (t' := s3.toks + _) I3 (by rw [e3]; exact True.intro) hsb he (dn_ok (H := upd H3 a (dN a (ks' ++ [k]) (as' ++ [b]) (ws' ++ [z]))) (hv'.append (.cons rz .nil)) dd2 ?_), rz, q4 n1⟩
      have kk : KeysAt H3 (ks' ++ [k]) (as' ++ [b]) := ka'.snoc hk
      have off : ∀ c xs, H3 c = some (.tup xs) → upd H3 a (dN a (ks' ++ [k]) (as' ++ [b]) (ws' ++ [z])) c = some (.tup xs) := fun c xs hc => by
        rw [upd_ne (fun z => by subst z; rw [e3] at hc; cases hc)]
        exact hc
      exact keysAt_off off kk
    · rw [n2] at e; cases e
end
end DD
/-! numbers as texts and back, x in a list, dicts of lists -/
namespace DD
open PySem PySem.Spec L2
section
variable {K : PySem.W.Frag} {CA : EvC} {W : WX} {te ta tb tc tk tz tv td : TE} {f fk fz fv fd f1 f2 f3 : CF} {F0 H0 F H F' H' : Hp} {σ : L2.St} {ρ : Sl} {D : Ends} {i : Nat}
/-! ### str(x), int(text) -/
def numLim : Nat := 1000000000000000000000000000000000000000000000000000000000000
def gStr : PV → Option ER
  | .s cs => some (.d (.s cs))
  | .i n => if 0 ≤ n ∧ n.natAbs < numLim then some (.d (.s (TL.numL n.toNat))) else none
  | _ => none
def rStrA : List V → Hp → VK → Prop := fun xs H Q => (∃ i : Int, xs = [.int i] ∧ i.natAbs.log2 < 1920 ∧ Q (.str (toString i)) H) ∨ ∃ a, xs = [.str a] ∧ Q (.str a) H
theorem call_strA {X : Cx} : CallR X (.type "str") rStrA := by
  intro pins s σ H xs us Q I r h
  rcases h with h | h
  · exact call_str_int pins s σ H xs us Q I r h
  · exact SkE.call_str_str pins s σ H xs us Q I r h
theorem numLim_log {n : Nat} (h : n < numLim) : n.log2 < 1920 := by
  by_cases h0 : n = 0
  · subst h0; decide
  · rw [Nat.log2_lt h0]
    exact Nat.lt_of_lt_of_le h (by decide +kernel)
theorem op_str : Op1C K rStrA gStr := by
  intro F H x a z Q s v1 e k
  unfold gStr at e
  split at e
  · cases e
    exact .inr ⟨_, congrArg (fun t => [t]) v1.s, k _ F H (Gr.refl s) (Dat.s _)⟩
  · rename_i n
    split at e
    · rename_i hl
      cases e
      obtain ⟨m, rfl⟩ := Int.eq_ofNat_of_zero_le hl.1
      refine .inl ⟨_, congrArg (fun t => [t]) v1.i, numLim_log hl.2, ?_⟩
      have hs : ((toString ((m : Nat) : Int) : String) : Str) = ⟨(TL.numL m).toArray⟩ := SX.num_S m
      rw [hs]
      exact k _ F H (Gr.refl s) (Dat.s _)
    · cases e
  · cases e
def isFig (c : Nat) : Bool := decide (48 ≤ c) && decide (c ≤ 57)
def gIntS : PV → Option ER
  | .s cs => if cs ≠ [] ∧ cs.all isFig = true ∧ cs.length ≤ 640 then some (.d (.i (NumText.digitsVal cs : Nat))) else none
  | _ => none
def rIntS : List V → Hp → VK → Prop := fun xs H Q => ∃ a n, xs = [.str a] ∧ PySem.intText? a = some n ∧ a.length ≤ 640 ∧ Q (.int n) H
theorem figs_all {cs : List Nat} (h : cs.all isFig = true) : NumText.AllDigits cs := fun c hc => by
  have := List.all_eq_true.mp h c hc
  unfold isFig at this
  simpa using this
theorem op_ints : Op1C K rIntS gIntS := by
  intro F H x a z Q s v1 e k
  unfold gIntS at e
  split at e
  · rename_i cs
    split at e
    · rename_i hl
      cases e
      refine ⟨⟨cs.toArray⟩, _, congrArg (fun t => [t]) v1.s, intText_digits (x := ⟨cs.toArray⟩) (figs_all hl.2.1) hl.1 ?_, ?_, k _ F H (Gr.refl s) (Dat.i _)⟩
      · rw [str_len]; have := hl.2.2; omega
      · rw [str_len]; exact hl.2.2
    · cases e
  · cases e
/-! ### x in a list of ints -/
def gInL : PV → PV → Option ER
  | .i n, .l xs => (intsOf xs).map fun ns => .d (.b (ns.any fun k => k == n))
  | _, _ => none
theorem op_inL : Op2 K (rIn K false) gInL := by
  intro F H x y a b z Q s v1 v2 e k
  unfold gInL at e
  split at e
  · rename_i n xs
    cases hi : intsOf xs with
    | none => rw [hi] at e; cases e
    | some ns =>
      rw [hi] at e
      cases e
      obtain ⟨p, vs, rfl, h1, h2⟩ := v2.l s
      rw [intsOf_eq hi] at h2
      rw [h2.ints] at h1
      refine ⟨p, _, rfl, .inl (SqL.of h1), by rw [v1.i]; rfl, List.all_eq_true.mpr fun w hw => ?_, ?_⟩
      · obtain ⟨m, _, rfl⟩ := List.mem_map.mp hw
        rfl
      · rw [v1.i]
        have : inV (.int n) (ns.map V.int) = ns.any fun k => k == n := by
          unfold inV
          rw [List.any_map]
          rfl
        rw [if_neg (by decide), this]
        exact k _ F H (Gr.refl s) (Dat.b _)
  · cases e
/-! ### enumerate(xs) -/
def enumP (xs : List PV) : List PV := xs.zipIdx.map fun p => .t [.i (p.2 : Nat), p.1]
def iE (f : CF) : CI := fun g ρ => eS (fun x => match x with | .l xs => g (enumP xs) | _ => none) (f ρ)
theorem enumP_get {xs : List PV} {i : Nat} : (enumP xs)[i]? = (xs[i]?).map fun x => .t [.i (i : Nat), x] := by
  unfold enumP
  rw [List.getElem?_map, List.getElem?_zipIdx, Option.map_map]
  congr 1
  funext x
  simp
theorem walks_enum {a : Addr} {vs : List V} {xs : List PV} (h : F a = some (.lst vs)) (hs : Dats K F vs xs) : Walks K (Ite K a) F H (enumP xs) := by
  intro i F2 H2 s1 s2
  have h2 : SqL K H2 a vs := SqL.of (s2 _ _ (s1 _ _ h))
  refine ⟨fun d hd => ?_, fun hn => ?_⟩
  · rw [enumP_get] at hd
    cases hx : xs[i]? with
    | none => rw [hx] at hd; cases hd
    | some y =>
      rw [hx] at hd
      cases hd
      obtain ⟨v, e1, e2⟩ := hs.get hx
      refine ⟨⟨vs, v, h2, e1⟩, fun x H3 hy => ?_⟩
      obtain ⟨T, u, rfl, hT, rfl, hy⟩ := hy
      have := hy vs h2
      rw [e1] at this
      cases this
      have gp := Gr.put (o := .tup [.int (i : Nat), v]) s2 hT
      exact ⟨_, gp, .t upd_same (.cons (.i _) (.cons ((e2.mono s1).mono gp.f) .nil))⟩
  · rw [enumP_get] at hn
    refine ⟨vs, h2, ?_⟩
    rw [hs.length]
    cases hx : xs[i]? with
    | none => exact List.getElem?_eq_none_iff.mp hx
    | some y => rw [hx] at hn; cases hn
theorem di_enum (h : DE K CA W te f) : DI K CA W (iEnum K (tCons te tNil)) (iE f) := by
  intro H0 F H σ ρ z g R Rp hz he k
  refine h.goS Rp hz he fun x v F1 H1 g1 o1 e1 => ?_
  cases o1 with
  | l h1 h2 => exact ⟨_, _, rfl, SqL.of (g1.s _ _ h1), k _ _ F1 H1 g1 (walks_enum h1 h2) e1⟩
  | _ => cases e1
/-! ### dicts of lists -/
def keyOf : PV → Option DK
  | .t [.t ys, .i x] => (intsOf ys).map fun ns => .c ns x
  | .t xs => (intsOf xs).map .t
  | _ => none
theorem Dats.cons2 {vs : List V} {x : PV} {xs : List PV} (h : Dats K F vs (x :: xs)) : ∃ v ws, vs = v :: ws ∧ Dat K F v x ∧ Dats K F ws xs := by
  cases h with
  | cons a b => exact ⟨_, _, rfl, a, b⟩
theorem Dat.tup {v : V} {xs : List PV} (h : Dat K F v (.t xs)) : ∃ a vs, v = .ref a ∧ F a = some (.tup vs) ∧ Dats K F vs xs := by
  cases h with
  | t h1 h2 => exact ⟨_, _, rfl, h1, h2⟩
theorem key_dat {v : V} {x : PV} {k : DK} (h : Dat K F v x) (e : keyOf x = some k) : ∃ b, v = .ref b ∧ KeyAt F k b := by
  unfold keyOf at e
  split at e
  · rename_i ys y
    cases hi : intsOf ys with
    | none => rw [hi] at e; cases e
    | some ns =>
      rw [hi] at e
      cases e
      obtain ⟨a, vs, rfl, h1, h2⟩ := h.tup
      obtain ⟨v1, ws, rfl, d1, h3⟩ := h2.cons2
      obtain ⟨v2, ws2, rfl, d2, h4⟩ := h3.cons2
      cases h4
      obtain ⟨b, us, rfl, g1, g2⟩ := d1.tup
      rw [intsOf_eq hi] at g2
      rw [g2.ints] at g1
      have e2 : v2 = .int y := by cases d2; rfl
      subst e2
      exact ⟨a, rfl, b, h1, g1⟩
  · rename_i xs _
    cases hi : intsOf xs with
    | none => rw [hi] at e; cases e
    | some ns =>
      rw [hi] at e
      cases e
      obtain ⟨a, vs, rfl, h1, h2⟩ := h.tup
      rw [intsOf_eq hi] at h2
      rw [h2.ints] at h1
      exact ⟨a, rfl, h1⟩
  · cases e
def cGetN (fd fk fz : CF) : CF := fun ρ => e1 (fun x => match fk ρ with
  | some (.d kv) => (match fz ρ with
    | some (.f []) => (match x with
      | .q true ks xs => (match keyOf kv with
        | some k => (match dLook ks xs k with
          | some y => some (.d y)
          | none => some (.f []))
        | none => none)
      | _ => none)
    | _ => none)
  | _ => none) (fd ρ)
theorem de_getN (hd : DE K CA W td fd) (hk : DE K CA W tk fk) (hzz : DE K CA W tz fz) : DE K CA W (tDGetN td tk tz) (cGetN fd fk fz) := by
  intro H0 F H σ ρ z Q R hz hq he
  refine hd.go R hz he fun x v F1 H1 g1 o1 h1 => ?_
  split at h1
  · rename_i kv hkv
    split at h1
    · rename_i hz0
      split at h1
      · rename_i ks xs
        split at h1
        · rename_i k hkk
          obtain ⟨a, o, ws, rfl, e1, e2, e3⟩ := o1.q g1.s
          obtain ⟨hl, hs, hnd, as, ka, rfl⟩ := id e2
          refine ⟨a, ks, as, ws, rfl, e1, ka.mono g1.s, hnd, hs, ?_⟩
          refine hk H0 F1 H1 σ ρ _ _ (R.up g1) hkv (fun kvv F2 H2 g2 ok2 => ?_) (fun c e => by cases e)
          obtain ⟨kb, rfl, hkb⟩ := key_dat ok2 hkk
          refine hzz H0 F2 H2 σ ρ _ _ ((R.up g1).up g2) hz0 (fun zv F3 H3 g3 ok3 => ?_) (fun c e => by cases e)
          refine ⟨kb, k, ks, as, ws, rfl, hkb.mono (g2.s.trans g3.h), g3.h _ _ (g2.h _ _ e1), ka.mono (g1.s.trans (g2.h.trans g3.h)), hnd, hl, ?_⟩
          have hlk := e3.look (ks := ks) (k := k) hl
          cases hy : dLook ks xs k with
          | some y =>
            rw [hy] at h1
            cases h1
            obtain ⟨u, hu, hdu⟩ := hlk.2 y hy
            rw [hu]
            exact hq _ F3 H3 (g1.trans (g2.trans g3)) (hdu.mono (g2.f.trans g3.f))
          | none =>
            rw [hy] at h1
            cases h1
            rw [hlk.1 hy]
            exact hq _ F3 H3 (g1.trans (g2.trans g3)) (ok3.back (g1.h.trans g2.h))
        · cases h1
      · cases h1
    · cases h1
  · cases h1
/-- x = {}, a dict of lists -/
def cNewH (i : Nat) : CS := fun ρ => some (.nx (ρ.set i (.h [] [])))
theorem ds_newH : DS K CA W (tAsg tDNewN (gName i)) (cNewH i) := by
  intro F0 H0 σ H ρ o D A e P
  cases e
  obtain ⟨F, b, R⟩ := A
  intro p hp hs
  have g := Gr.new (o := dN p [] [] []) R.sub hp
  refine P _ _ ⟨F, b.up g, (R.up g).setn (B := [p]) rfl ⟨p, _, [], rfl, rfl, by simp, upd_same, ⟨rfl, hs, List.nodup_nil, [], trivial, rfl⟩, trivial⟩ (fun a ha => ?_) ⟨F, R⟩ (fun a ha => ?_) g.h⟩
  · rw [List.mem_singleton.mp ha]; exact ⟨R.sub.free hp, b.h.free hp⟩
  · rw [List.mem_singleton.mp ha]; exact hp
/-- the list at a key is put in, if it is not there -/
def dEns (ks : List DK) (xss : List (List PV)) (k : DK) : List DK × List (List PV) := match dLook ks xss k with
  | some _ => (ks, xss)
  | none => (ks ++ [k], xss ++ [[]])
/-- the list at a key is another -/
def dSet : List DK → List (List PV) → DK → List PV → List (List PV)
  | k' :: ks, x :: xss, k, ys => if k' = k then ys :: xss else x :: dSet ks xss k ys
  | _, _, _, _ => []
theorem look_mem {k : DK} {r : Addr} : ∀ {ks : List DK} {ps : List Addr}, dLook ks (ps.map V.ref) k = some (.ref r) → r ∈ ps
  | k' :: ks, p :: ps, h => by
    rw [List.map_cons, dLook_cons] at h
    by_cases e : k' = k
    · rw [if_pos e] at h
      cases h
      simp
    · rw [if_neg e] at h
      simp [look_mem h]
  | [], _, h => by cases h
  | _ :: _, [], h => by cases h
theorem Lists.look {k : DK} : ∀ {ks : List DK} {ps : List Addr} {xss : List (List PV)}, Lists K F H ps xss → ks.length = ps.length → (dLook ks xss k = none → dLook ks (ps.map V.ref) k = none) ∧
    ∀ ys, dLook ks xss k = some ys → ∃ r vs, dLook ks (ps.map V.ref) k = some (.ref r) ∧ H r = some (.lst vs) ∧ Dats K F vs ys
  | [], [], [], _, _ => ⟨fun _ => rfl, fun _ h => by cases h⟩
  | k' :: ks, p :: ps, xs :: xss, ⟨⟨vs, h1, h2⟩, r⟩, hl => by
    rw [List.map_cons, dLook_cons, dLook_cons]
    by_cases e : k' = k
    · rw [if_pos e, if_pos e]
      exact ⟨fun h => (by cases h), fun ys h => (by cases h; exact ⟨p, vs, rfl, h1, h2⟩)⟩
    · rw [if_neg e, if_neg e]
      exact Lists.look r (by simpa using hl)
  | [], _ :: _, _, _, h => by simp at h
  | _ :: _, [], _, _, h => by simp at h
  | [], [], _ :: _, r, _ => r.elim
  | _ :: _, _ :: _, [], r, _ => r.elim
theorem Lists.dset {k : DK} {r : Addr} {vs2 : List V} {ys2 : List PV} (fF : Same F F') (hr : H' r = some (.lst vs2)) (hd : Dats K F' vs2 ys2) (off : ∀ a, a ≠ r → H' a = H a) :
    ∀ {ks : List DK} {ps : List Addr} {xss : List (List PV)}, Lists K F H ps xss → ks.length = ps.length → ps.Nodup → dLook ks (ps.map V.ref) k = some (.ref r) → Lists K F' H' ps (dSet ks xss k ys2)
  | k' :: ks, p :: ps, xs :: xss, ⟨⟨vs, h1, h2⟩, rr⟩, hl, nd, h => by
    rw [List.nodup_cons] at nd
    rw [List.map_cons, dLook_cons] at h
    unfold dSet
    by_cases e : k' = k
    · rw [if_pos e] at h
      cases h
      rw [if_pos e]
      exact ⟨⟨vs2, hr, hd⟩, rr.off fF fun a ha => off a fun z => nd.1 (z ▸ ha)⟩
    · rw [if_neg e] at h
      rw [if_neg e]
      have hm := look_mem h
      exact ⟨⟨vs, by rw [off p (fun z => nd.1 (z ▸ hm))]; exact h1, h2.mono fF⟩, Lists.dset fF hr hd off rr (by simpa using hl) nd.2 h⟩
  | [], _, _, _, _, _, h => by cases h
  | _ :: _, [], _, _, _, _, h => by cases h
  | _ :: _, _ :: _, [], r, _, _, _ => r.elim
def cSetA (i : Nat) (fk fz fv : CF) : CS := fun ρ => match ρ[i]? with
  | some (.h ks xss) => (match fk ρ with
    | some (.d kv) => (match keyOf kv with
      | some k => (match fz ρ with
        | some (.f []) => if ks.length < big then lS (fun y => match dLook (dEns ks xss k).1 (dEns ks xss k).2 k with
            | some ys => if ys.length < big then some (.nx (ρ.set i (.h (dEns ks xss k).1 (dSet (dEns ks xss k).1 (dEns ks xss k).2 k (ys ++ [y]))))) else none
            | none => none) (fv (ρ.set i (.h (dEns ks xss k).1 (dEns ks xss k).2))) else none
        | _ => none)
      | none => none)
    | _ => none)
  | _ => none
/-- behind setdefault: the list is lengthened -/
theorem app_at {k : DK} {ks : List DK} {xss : List (List PV)} {ys : List PV} {p r : Addr} {as ps : List Addr} {o : Fl} {F9 : Hp} (hv : DE K CA W tv fv) (A : At K CA F0 H0 ρ σ H) (hi : ρ[i]? = some (.h ks xss)) (hy : dLook ks xss k = some ys)
    (e1 : σ[i]? = some (some (.ref p))) (hp : H p = some (dN p ks as (ps.map V.ref))) (hd9 : DictH F9 p true (dN p ks as (ps.map V.ref)) ks (ps.map V.ref)) (hr : dLook ks (ps.map V.ref) k = some (.ref r))
    (e : lS (fun y => if ys.length < big then some (.nx (ρ.set i (.h ks (dSet ks xss k (ys ++ [y]))))) else none) (fv ρ) = some o) (P : Post K CA W F0 H0 D o) :
    tyV K "list" (.ref r) H ∧ tCons tv tNil σ H fun xs H2 => rAppend (.ref r) xs H2 fun _ H3 => D.nx σ H3 := by
  obtain ⟨F, b, R⟩ := A
  have own : ∀ {F1 H1 : Hp} {v : V} {B : List Addr}, Same H H1 → σ[i]? = some (some v) → Own K F1 H1 v B (.h ks xss) → B = p :: ps ∧ v = .ref p ∧ (p :: ps).Nodup ∧ H1 p = some (dN p ks as (ps.map V.ref)) ∧ DictH F1 p true (dN p ks as (ps.map V.ref)) ks (ps.map V.ref) ∧ Lists K F1 H1 ps xss := by
    intro F1 H1 v B hs f1 ho
    obtain ⟨p', ob, ps', rfl, rfl, nd, q1, q2, q3⟩ := ho
    rw [e1] at f1
    cases f1
    have hp1 := hs _ _ hp
    rw [hp1] at q1
    cases q1
    have := DictH.det q2 hd9
    subst this
    exact ⟨rfl, rfl, nd, hp1, q2, q3⟩
  obtain ⟨v, B, f1, ho, hB, _⟩ := R.write hi rfl
  obtain ⟨rfl, rfl, nd, _, hd1, hl1⟩ := own (Same.refl _) f1 ho
  obtain ⟨l1, _, _, as1, ka1, ea1⟩ := id hd1
  have hps : ks.length = ps.length := by rw [l1]; simp
  obtain ⟨r1, vs1, g1, g2, g3⟩ := (hl1.look (ks := ks) (k := k) hps).2 ys hy
  rw [hr] at g1
  cases g1
  refine ⟨.inl ⟨rfl, vs1, SqL.of g2⟩, ?_⟩
  refine hv.atS ⟨F, b, R⟩ e (fun F1 b1 R1 v y F' H' g hd e2' => ?_) (fun c e => post_ex o e P)
  split at e2'
  · rename_i hlen
    cases e2'
    obtain ⟨v', B', f2, ho', hB', wr⟩ := (R1.up g).writeB R1 g.h hi rfl
    obtain ⟨rfl, rfl, nd2, hp2, hd2, hl2⟩ := own g.h f2 ho'
    have hm : r ∈ ps := look_mem hr
    have np : r ≠ p := fun z => (List.nodup_cons.mp nd2).1 (z ▸ hm)
    obtain ⟨r3, vs3, q1, q2, q3⟩ := (hl2.look (ks := ks) (k := k) hps).2 ys hy
    rw [hr] at q1
    cases q1
    refine ⟨r, vs3, v, rfl, rfl, q2, by rw [q3.length, big_eq]; exact hlen, ?_⟩
    have offp : ∀ a, a ≠ r → upd H' r (.lst (vs3 ++ [v])) a = H' a := fun a ha => upd_ne ha
    refine P _ _ ⟨F', (b1.up g).off (B := p :: ps) (fun a ha => (hB' a ha).2.2) (Same.refl _) (fun a o e n => by rw [offp a (fun z => n (by rw [z]; simp [hm]))]; exact e) (fun _ _ e => .inl e), ?_⟩
    refine wr F' _ (.h ks (dSet ks xss k (ys ++ [y]))) (p :: ps) rfl (Same.refl _) (fun a o e n => by rw [offp a (fun z => n (by rw [z]; simp [hm]))]; exact e) (fun a o e => ?_) (fun _ _ e => .inl e)
      ⟨p, _, ps, rfl, rfl, nd2, by rw [offp p (fun z => np z.symm)]; exact hp2, hd2, Lists.dset (H := H') (Same.refl _) upd_same (q3.snoc hd) offp hl2 hps (List.nodup_cons.mp nd2).2 hr⟩ (fun a ha => ?_)
    · rw [offp a (ne_of_none e (hB' r (by simp [hm])).2.1)]
      exact g.s a o e
    · exact ⟨(hB' a ha).2.1, (hB' a ha).2.2, .inl ha⟩
  · cases e2'
theorem set_self {α : Type} {l : List α} {i : Nat} {x : α} (h : l[i]? = some x) : l.set i x = l := by
  apply List.ext_getElem?
  intro j
  rw [List.getElem?_set]
  by_cases e : i = j
  · subst e
    rw [if_pos rfl, if_pos (List.getElem?_eq_some_iff.mp h).1, h]
  · rw [if_neg e]
theorem dLook_new {α : Type} {k : DK} {x : α} {ks : List DK} {xs : List α} (hl : ks.length = xs.length) (h : dLook ks xs k = none) : dLook (ks ++ [k]) (xs ++ [x]) k = some x := by
  rw [dLook_snoc hl, h]
  simp
theorem not_mem_look {α : Type} {k : DK} : ∀ {ks : List DK} {xs : List α}, ks.length = xs.length → dLook ks xs k = none → k ∉ ks
  | [], [], _, _ => by simp
  | k' :: ks, x :: xs, hl, h => by
    rw [dLook_cons] at h
    split at h
    · cases h
    · rename_i hn
      rw [List.mem_cons, not_or]
      exact ⟨fun z => hn z.symm, not_mem_look (by simpa using hl) h⟩
  | [], _ :: _, h, _ => by simp at h
  | _ :: _, [], h, _ => by simp at h
theorem ds_setA (hk : DE K CA W tk fk) (hz : DE K CA W tz fz) (hv : DE K CA W tv fv) : DS K CA W (tDrop (tBM K "list" rAppend (tDSetdN (tVar i) tk tz) (tCons tv tNil))) (cSetA i fk fz fv) := by
  intro F0 H0 σ H ρ o D A e P
  unfold cSetA at e
  split at e
  · rename_i ks xss hi
    split at e
    · rename_i kv hkv
      split at e
      · rename_i k hkk
        split at e
        · rename_i hz0
          split at e
          · rename_i hlen
            obtain ⟨F, b, R⟩ := A
            obtain ⟨v, B, e1, ⟨p, ob, ps, rfl, rfl, nd, hp, hd, hl⟩, hB, _⟩ := R.write hi rfl
            obtain ⟨hl0, hsys, hnd, as, hka, rfl⟩ := id hd
            refine ⟨.ref p, e1, p, ks, as, ps.map V.ref, rfl, hp, hka.mono R.sub, hnd, hsys, ?_⟩
            refine hk H0 F H σ ρ _ _ R hkv (fun kvv F2 H2 g2 okk => ?_) (fun c e => by cases e)
            obtain ⟨kb, rfl, hkb⟩ := key_dat okk hkk
            have R3 := R.up g2
            have b3 := b.up g2
            refine hz H0 F2 H2 σ ρ _ _ R3 hz0 (fun zv F4 H4 g4 okz => ?_) (fun c e => by cases e)
            obtain ⟨q, zs, rfl, z0, z1, z2, z3⟩ := okz
            cases z3
            have R4 := R3.up g4
            have b4 := b3.up g4
            obtain ⟨v', B', f1, ⟨p', ob', ps', ev, eB, nd', hp', hd', hl'⟩, hB', wr⟩ := R4.writeB R3 g4.h hi rfl
            rw [e1] at f1
            cases f1
            cases ev
            subst eB
            obtain ⟨hl0', _, _, as', hka', rfl⟩ := id hd'
            have hps : ks.length = ps'.length := by rw [hl0']; simp
            have hlk := hl'.look (ks := ks) (k := k) hps
            refine ⟨kb, k, ks, as', ps'.map V.ref, rfl, hkb.mono (g2.s.trans g4.h), hp', hka'.mono g4.s, hnd, hl0', by rw [big_eq]; exact hlen, fun w hw => ?_, fun hn => ?_⟩
            · cases hy : dLook ks xss k with
              | none => rw [hlk.1 hy] at hw; cases hw
              | some ys =>
                obtain ⟨r, vs, h1, _, _⟩ := hlk.2 ys hy
                rw [h1] at hw
                cases hw
                have hen : dEns ks xss k = (ks, xss) := by unfold dEns; rw [hy]
                have hset : ρ.set i (.h ks xss) = ρ := set_self hi
                simp only [hen, hset, hy] at e
                exact app_at hv ⟨F4, b4, R4⟩ hi hy e1 hp' hd' h1 e P
            · cases hy : dLook ks xss k with
              | some ys =>
                obtain ⟨r, vs, h1, _, _⟩ := hlk.2 ys hy
                rw [h1] at hn
                cases hn
              | none =>
                have hen : dEns ks xss k = (ks ++ [k], xss ++ [[]]) := by unfold dEns; rw [hy]
                have hxl : ks.length = xss.length := by rw [hps, hl'.length]
                have hy2 : dLook (ks ++ [k]) (xss ++ [[]]) k = some [] := dLook_new hxl hy
                simp only [hen, hy2] at e
                have hpq : q ≠ p := fun z => by
                  subst z
                  rw [hp'] at z2
                  cases z2
                have hq : q ∉ p :: ps' := fun hm => by
                  rcases List.mem_cons.mp hm with h | h
                  · exact hpq h
                  · have e3 : ps' = ps := by
                      have hp4 := g4.h _ _ (g2.h _ _ hp)
                      rw [hp'] at hp4
                      have e4 := Option.some.inj hp4
                      rw [e4] at hd'
                      exact DictH.det hd' hd
                    subst e3
                    have := (hB q (by simp [h])).1
                    exact this ((g2.h.free z0))
                have offp : ∀ a, a ≠ p → upd H4 p (dN p (ks ++ [k]) (as' ++ [kb]) (ps'.map V.ref ++ [.ref q])) a = H4 a := fun a ha => upd_ne ha
                have hmap : ps'.map V.ref ++ [V.ref q] = (ps' ++ [q]).map V.ref := by simp
                have nd5 : (p :: (ps' ++ [q])).Nodup := by
                  rw [← List.cons_append, List.nodup_append]
                  exact ⟨nd', by simp, fun a ha b hb z => hq (by rw [List.mem_singleton.mp hb] at z; rw [← z]; exact ha)⟩
                have hd5 : DictH F4 p true (dN p (ks ++ [k]) (as' ++ [kb]) ((ps' ++ [q]).map V.ref)) (ks ++ [k]) ((ps' ++ [q]).map V.ref) := by
                  refine ⟨by simp [hps], hsys, ?_, as' ++ [kb], hka'.snoc (hkb.mono g4.f), rfl⟩
                  rw [List.nodup_append]
                  exact ⟨hnd, by simp, fun a ha b hb z => not_mem_look hxl hy (by rw [List.mem_singleton.mp hb] at z; rw [← z]; exact ha)⟩
                have A5 : At K CA F0 H0 (ρ.set i (.h (ks ++ [k]) (xss ++ [[]]))) σ (upd H4 p (dN p (ks ++ [k]) (as' ++ [kb]) (ps'.map V.ref ++ [.ref q]))) := by
                  refine ⟨F4, b4.off (B := p :: ps') (fun a ha => (hB' a ha).2.2) (Same.refl _) (fun a o e n => by rw [offp a (fun z => n (by rw [z]; simp))]; exact e) (fun _ _ e => .inl e), ?_⟩
                  refine wr F4 _ (.h (ks ++ [k]) (xss ++ [[]])) (p :: (ps' ++ [q])) rfl (Same.refl _) (fun a o e n => by rw [offp a (fun z => n (by rw [z]; simp))]; exact e) (fun a o e => ?_) (fun _ _ e => .inl e)
                    ⟨p, _, ps' ++ [q], rfl, rfl, nd5, upd_same, by rw [hmap]; exact hd5, (hl'.off (Same.refl _) fun a ha => offp a fun z => ?_).snoc (by rw [offp q hpq]; exact z2) .nil⟩ (fun a ha => ?_)
                  · rw [offp a (ne_of_none e (hB' p (by simp)).2.1)]
                    exact g4.s a o e
                  · subst z
                    exact (List.nodup_cons.mp nd').1 ha
                  · rw [← List.cons_append] at ha
                    rcases List.mem_append.mp ha with ha | ha
                    · exact ⟨(hB' a ha).2.1, (hB' a ha).2.2, .inl ha⟩
                    · rw [List.mem_singleton.mp ha]
                      exact ⟨z1, b3.h.free z0, .inr z0⟩
                refine app_at hv A5 (set_at (List.getElem?_eq_some_iff.mp hi).1) hy2 e1 (as := as' ++ [kb]) (ps := ps' ++ [q]) (by rw [upd_same, hmap]) hd5 ?_ ?_ P
                · rw [← hmap]
                  exact dLook_new (by rw [List.length_map]; exact hps) hn
                · simp only [List.set_set]
                  exact e
          · cases e
        · cases e
      · cases e
    · cases e
  · cases e
end
/-! ### the rules -/
section
variable {X : Cx} {K : PySem.W.Frag} {CA : EvC} {W : WX} {a b c e o ei : Expr} {ta tb tc te : TE} {fa fb fc f : CF} {pos p p2 : Pos} {apos cpos apos2 cpos2 : Pos}
theorem px_strc (hm : X.mg "str" = none) (h : PX X K CA W e te f) (hg : Gl X "str" := by rfl) (hs : starEach [e] X.env = (false, eval e X.env) :: starEach [] X.env := by rfl) : PX X K CA W (.Call (.Name "str" p) [e] [] pos) (tCB rStrA (tCons te tNil)) (c1 gStr f) :=
  ⟨pe_callTy call_strA hg hm (by decide +kernel) (pax1 h hs) (by decide) (by decide) hs rfl, de_B1 op_str h.de⟩
theorem px_ints (hm : X.mg "int" = none) (h : PX X K CA W e te f) (hg : Gl X "int" := by rfl) (hs : starEach [e] X.env = (false, eval e X.env) :: starEach [] X.env := by rfl) : PX X K CA W (.Call (.Name "int" p) [e] [] pos) (tCB rIntS (tCons te tNil)) (c1 gIntS f) :=
  ⟨pe_callTy call_int_str hg hm (by decide +kernel) (pax1 h hs) (by decide) (by decide) hs rfl, de_B1 op_ints h.de⟩
theorem pix_e {elts : List Expr} {kk : Nat} {tpos : Pos} (hm : X.mg "enumerate" = none) (h : PX X K CA W e te f) (hg : Gl X "enumerate" := by rfl) (hs : starEach [e] X.env = (false, eval e X.env) :: starEach [] X.env := by rfl) (hs2 : starEach [e] X.env = [(false, eval e X.env)] := by rfl) (hK : X.K = K := by rfl) :
    PIX X K CA W (.Tuple elts kk tpos) (.Call (.Name "enumerate" p) [e] [] pos) (iEnum K (tCons te tNil)) (iE f) := by
  subst hK
  exact ⟨pi_enum hg hm (pax1 h hs) hs2, di_enum h.de⟩
theorem px_inl (ha : PX X K CA W a ta fa) (hb : PX X K CA W b tb fb) (hm : behindInMarks .In b = false := by with_unfolding_all rfl) (hK : X.K = K := by rfl) : PX X K CA W (.Compare a [.In] [b] pos) (tOp (rIn K false) ta tb) (c2 gInL fa fb) := by
  subst hK
  exact ⟨pe_cmpR op_in_seq ha.pe hb.pe hm, de_2 op_inL ha.de hb.de⟩
theorem pt_inl (ha : PX X K CA W a ta fa) (hb : PX X K CA W b tb fb) (hm : behindInMarks .In b = false := by with_unfolding_all rfl) (hK : X.K = K := by rfl) : PTX X K CA W (.Compare a [.In] [b] pos) (tTest (tOp (rIn K false) ta tb)) (c2 gInL fa fb) := by
  subst hK
  exact ⟨pt_cmpR op_in_seq ha.pe hb.pe hm, dt_test (de_2 op_inL ha.de hb.de)⟩
theorem px_getN {A' : Around} {j : Nat} (hr : Room j A') (h0 : PX X K CA W o ta fa) (hk : PX X K CA W a tb fb) (hz : PX X K CA W b tc fc) (hA : A'.units = X.A.units := by rfl) (hbase : attributeBase o "get" X.env (eval o X.env) = eval o X.env := by rfl)
    (hfew : ((backTo cpos (starEach [a, b] X.env)).all (fun x => !x.1) && (backToKw cpos (keywordEach [] X.env)).all (fun x => x.1.isSome)
      && decide (([a, b] : List Expr).length + ([] : List Keyword).length + (if ([] : List Keyword).isEmpty then 0 else 1) < 30)) = true := by rfl)
    (hline : (apos.endLine == cpos.line) = true := by rfl) (htr : backTo cpos (starEach [a, b] X.env) = [(false, eval a X.env), (false, eval b X.env)] := by rfl) :
    PX X K CA W (.Call (.Attribute o "get" apos) [a, b] [] cpos) (tDGetN ta tb tc) (cGetN fa fb fc) := ⟨pe_dgetN (by have := hr.un; omega) h0.pe hk.pe hz.pe ⟨hbase, hfew, hline, htr⟩, de_getN h0.de hk.de hz.de⟩
theorem s_newH (i : Nat) {x : Str} {pos' pos2 : Pos} (hN : X.N.Nodup) (hi : X.N[i]? = some x := by rfl) (hx : Loc X.env.scope x := by first | exact Or.inl rfl | exact Or.inr rfl) (hs : swapsWith (.Dict [] [] pos2) (some (.Name x pos')) pos.line X.env = pure false := by rfl) (hf : X.fn x = true ∨ X.env.scope.names.lookup x = some .local := by first | exact .inl rfl | exact .inr rfl | assumption) :
    PSX X K CA W (.Assign [.Name x pos'] (.Dict [] [] pos2) pos) (tAsg tDNewN (gName i)) (cNewH i) := ⟨ps_set hN hi hx pe_dnewN hs hf, ds_newH⟩
theorem s_setA (i : Nat) {A' : Around} {j : Nat} (hr : Room j A') (h0 : PX X K CA W o (tVar i) (cV i)) (hk : PX X K CA W a ta fa) (hz : PX X K CA W b tb fb) (hv : PX X K CA W e tc fc) (hA : A'.units = X.A.units := by rfl) (hbase : attributeBase o "setdefault" X.env (eval o X.env) = eval o X.env := by rfl)
    (hfew : ((backTo cpos (starEach [a, b] X.env)).all (fun x => !x.1) && (backToKw cpos (keywordEach [] X.env)).all (fun x => x.1.isSome)
      && decide (([a, b] : List Expr).length + ([] : List Keyword).length + (if ([] : List Keyword).isEmpty then 0 else 1) < 30)) = true := by rfl)
    (hline : (apos.endLine == cpos.line) = true := by rfl) (htr : backTo cpos (starEach [a, b] X.env) = [(false, eval a X.env), (false, eval b X.env)] := by rfl)
    (hbase2 : attributeBase (.Call (.Attribute o "setdefault" apos) [a, b] [] cpos) "append" X.env (eval (.Call (.Attribute o "setdefault" apos) [a, b] [] cpos) X.env) = eval (.Call (.Attribute o "setdefault" apos) [a, b] [] cpos) X.env := by rfl)
    (hfew2 : ((backTo cpos2 (starEach [e] X.env)).all (fun x => !x.1) && (backToKw cpos2 (keywordEach [] X.env)).all (fun x => x.1.isSome)
      && decide (([e] : List Expr).length + ([] : List Keyword).length + (if ([] : List Keyword).isEmpty then 0 else 1) < 30)) = true := by rfl)
    (hline2 : (apos2.endLine == cpos2.line) = true := by rfl) (hs : starEach [e] X.env = (false, eval e X.env) :: starEach [] X.env := by rfl)
    (hsw : swapsWith (.Call (.Attribute (.Call (.Attribute o "setdefault" apos) [a, b] [] cpos) "append" apos2) [e] [] cpos2) none pos.line X.env = pure false := by rfl) (hK : X.K = K := by rfl) :
    PSX X K CA W (.Expr (.Call (.Attribute (.Call (.Attribute o "setdefault" apos) [a, b] [] cpos) "append" apos2) [e] [] cpos2) pos) (tDrop (tBM K "list" rAppend (tDSetdN (tVar i) ta tb) (tCons tc tNil))) (cSetA i fa fb fc) := by
  subst hK
  exact ⟨ps_expr (pe_bm PySem.F.plainAttrs_list PySem.F.slot_list_append PySem.F.type_list_append mt_append (pe_dsetdN (by have := hr.un; omega) h0.pe hk.pe hz.pe ⟨hbase, hfew, hline, htr⟩) (pax1 hv hs) hbase2 hfew2 hline2 hs rfl) hsw, ds_setA hk.de hz.de hv.de⟩
end
end DD
/-! rows for simp: numbers as texts, x in a list, dicts of lists -/
namespace DD
open PySem PySem.Spec L2
section
variable {fk fz fv fd : CF} {ρ : Sl} {ks : List DK} {xs ys : List PV} {xss : List (List PV)} {cs : List Nat} {i : Nat} {z y kv : PV} {o : Option ER} {n : Int} {k k' : DK}
@[simp] theorem gStr_s : gStr (.s cs) = some (.d (.s cs)) := rfl
@[simp] theorem gStr_i : gStr (.i n) = if 0 ≤ n ∧ n.natAbs < numLim then some (.d (.s (TL.numL n.toNat))) else none := rfl
@[simp] theorem gIntS_s : gIntS (.s cs) = if cs ≠ [] ∧ cs.all isFig = true ∧ cs.length ≤ 640 then some (.d (.i (NumText.digitsVal cs : Nat))) else none := rfl
@[simp] theorem gInL_l : gInL (.i n) (.l xs) = (intsOf xs).map fun ns => .d (.b (ns.any fun k => k == n)) := rfl
@[simp] theorem cNewH_ap : cNewH i ρ = some (.nx (ρ.set i (.h [] []))) := rfl
def uE (q : List PV → Option ER) : PV → Option ER
  | .l xs => q (enumP xs)
  | _ => none
@[simp] theorem uE_l {q : List PV → Option ER} : uE q (.l xs) = q (enumP xs) := rfl
@[simp] theorem iE_ap {f : CF} {q : List PV → Option ER} : iE f q ρ = eS (uE q) (f ρ) := rfl
theorem enumP_map {α : Type} {m : α → PV} {L : List α} : enumP (L.map m) = L.zipIdx.map fun p => PV.t [.i (p.2 : Nat), m p.1] := by
  unfold enumP
  rw [List.zipIdx_map, List.map_map]
  rfl
def saO (i : Nat) (ρ : Sl) (ok oz : Option ER) (fv : CF) : Option Sl1 → Option Fl
  | some (.h ks xss) => (match ok with
    | some (.d kv) => (match keyOf kv with
      | some k => (match oz with
        | some (.f []) => if ks.length < big then lS (fun y => match dLook (dEns ks xss k).1 (dEns ks xss k).2 k with
            | some ys => if ys.length < big then some (.nx (ρ.set i (.h (dEns ks xss k).1 (dSet (dEns ks xss k).1 (dEns ks xss k).2 k (ys ++ [y]))))) else none
            | none => none) (fv (ρ.set i (.h (dEns ks xss k).1 (dEns ks xss k).2))) else none
        | _ => none)
      | none => none)
    | _ => none)
  | _ => none
@[simp] theorem cSetA_ap : cSetA i fk fz fv ρ = saO i ρ (fk ρ) (fz ρ) fv ρ[i]? := rfl
theorem saO_h (hk : keyOf kv = some k) (hl : ks.length < big) (hv : fv (ρ.set i (.h (dEns ks xss k).1 (dEns ks xss k).2)) = some (.d y)) (hy : dLook (dEns ks xss k).1 (dEns ks xss k).2 k = some ys) (hyl : ys.length < big) :
    saO i ρ (some (.d kv)) (some (.f [])) fv (some (.h ks xss)) = some (.nx (ρ.set i (.h (dEns ks xss k).1 (dSet (dEns ks xss k).1 (dEns ks xss k).2 k (ys ++ [y]))))) := by
  simp only [saO, hk, if_pos hl, hv, lS_d, hy, if_pos hyl]
def gtO (ok oz : Option ER) : PV → Option ER := fun x => match ok with
  | some (.d kv) => (match oz with
    | some (.f []) => (match x with
      | .q true ks xs => (match keyOf kv with
        | some k => (match dLook ks xs k with
          | some y => some (.d y)
          | none => some (.f []))
        | none => none)
      | _ => none)
    | _ => none)
  | _ => none
@[simp] theorem cGetN_ap : cGetN fd fk fz ρ = e1 (gtO (fk ρ) (fz ρ)) (fd ρ) := rfl
theorem gtO_q (hk : keyOf kv = some k) : gtO (some (.d kv)) (some (.f [])) (.q true ks xs) = match dLook ks xs k with
    | some y => some (.d y)
    | none => some (.f []) := by
  simp only [gtO, hk]
/-! what is looked up behind a step -/
theorem dEns_len (hl : ks.length = xss.length) : (dEns ks xss k).1.length = (dEns ks xss k).2.length ∧ (dEns ks xss k).1.length ≤ ks.length + 1 := by
  unfold dEns
  cases dLook ks xss k <;> simp [hl]
theorem dEns_look (hl : ks.length = xss.length) : dLook (dEns ks xss k).1 (dEns ks xss k).2 k' = match dLook ks xss k' with
    | some y => some y
    | none => if k = k' then some [] else none := by
  unfold dEns
  cases h : dLook ks xss k with
  | some y =>
    by_cases e : k = k'
    · subst e
      simp [h]
    · simp only [if_neg e]
      cases dLook ks xss k' <;> rfl
  | none =>
    show dLook (ks ++ [k]) (xss ++ [[]]) k' = _
    rw [dLook_snoc hl]
    cases dLook ks xss k' <;> rfl
theorem dSet_len : ∀ {ks : List DK} {xss : List (List PV)}, ks.length = xss.length → ks.length = (dSet ks xss k ys).length
  | [], [], _ => rfl
  | k' :: ks, x :: xss, h => by
    unfold dSet
    split
    · simpa using h
    · have := dSet_len (ks := ks) (xss := xss) (by simpa using h)
      simp [this]
  | [], _ :: _, h => by simp at h
  | _ :: _, [], h => by simp at h
theorem dSet_look : ∀ {ks : List DK} {xss : List (List PV)}, (dLook ks xss k).isSome = true → dLook ks (dSet ks xss k ys) k' = if k = k' then some ys else dLook ks xss k'
  | k0 :: ks, x :: xss, h => by
    rw [dLook_cons] at h
    unfold dSet
    by_cases e : k0 = k
    · subst e
      rw [if_pos rfl, dLook_cons, dLook_cons]
      split <;> rfl
    · rw [if_neg e] at h
      rw [if_neg e, dLook_cons, dLook_cons, dSet_look h]
      by_cases e2 : k0 = k'
      · subst e2
        rw [if_pos rfl, if_pos rfl, if_neg (fun z => e z.symm)]
      · rw [if_neg e2, if_neg e2]
  | [], _, h => by cases h
  | _ :: _, [], h => by cases h
theorem setA_look (hl : ks.length = xss.length) : dLook (dEns ks xss k).1 (dSet (dEns ks xss k).1 (dEns ks xss k).2 k ys) k' = if k = k' then some ys else dLook ks xss k' := by
  have h := dEns_look (k := k) (k' := k) hl
  have hs : (dLook (dEns ks xss k).1 (dEns ks xss k).2 k).isSome = true := by
    rw [h]
    cases dLook ks xss k <;> simp
  rw [dSet_look hs, dEns_look hl]
  by_cases e : k = k'
  · rw [if_pos e, if_pos e]
  · rw [if_neg e, if_neg e, if_neg e]
    cases dLook ks xss k' <;> rfl
theorem dLook_map {α β : Type} {f : α → β} : ∀ {ks : List DK} {xs : List α}, dLook ks (xs.map f) k = (dLook ks xs k).map f
  | [], _ => rfl
  | _ :: _, [] => rfl
  | k' :: ks, x :: xs => by
    rw [List.map_cons, dLook_cons, dLook_cons, dLook_map]
    split <;> rfl
end
end DD
/-! a def out of a list of defs is called; count and index -/
namespace DD
open PySem PySem.Spec PyProof.Rows L2
section
variable {K : PySem.W.Frag} {CA : EvC} {W : WX} {te ta tb ti : TE} {f fi f1 f2 : CF} {fs : List CF} {F0 H0 F H : Hp} {σ : L2.St} {ρ : Sl}
/-! ### [f, g, ..][i](..) -/
/-- what is asked: the list of the defs is new at p; the i-th one's promise -/
def tPick (K : PySem.W.Frag) (CA : EvC) (W : WX) (φs : List (List PV → Option ER)) (ti : TE) (t : TA) : TE := fun σ H Q => ∀ as : List Addr, as.length = φs.length → ∀ p, H p = none → ti σ (upd H p (.lst (as.map V.ref))) fun x H1 =>
  rIx K (.ref p) x H1 fun y H2 => ∃ (i : Nat) (f : Addr) (φ : List PV → Option ER), y = .ref f ∧ as[i]? = some f ∧ φs[i]? = some φ ∧ t σ H2 fun vs H3 => spD K CA φ vs H3 Q (WE W σ)
def cPick (φs : List (List PV → Option ER)) (fi : CF) (fs : List CF) : CF := fun ρ => e1 (fun x => match x with
  | .i n => if 0 ≤ n then (match φs[n.toNat]? with
    | some φ => cA φ fs ρ
    | none => none) else none
  | _ => none) (fi ρ)
theorem de_pick {φs : List (List PV → Option ER)} {t : TA} (hi : DE K CA W ti fi) (h : DA K CA W t fs) : DE K CA W (tPick K CA W φs ti t) (cPick φs fi fs) := by
  intro H0 F H σ ρ z Q R hz hq he as hl p hp
  have g0 := Gr.new (o := .lst (as.map V.ref)) R.sub hp
  refine hi.go (R.up g0) hz (fun c e F' H' gr => he c e F' H' (g0.trans gr)) fun x v F1 H1 g1 o1 h1 => ?_
  split at h1
  · rename_i n
    split at h1
    · rename_i hn
      obtain ⟨m, rfl⟩ := Int.eq_ofNat_of_zero_le hn
      split at h1
      · rename_i φ hφ
        have hm : m < as.length := by rw [hl]; exact (List.getElem?_eq_some_iff.mp hφ).1
        have hf : as[m]? = some as[m] := List.getElem?_eq_getElem hm
        refine .inl ⟨p, as.map V.ref, m, .ref as[m], rfl, o1.i, SqL.of (g1.h _ _ upd_same), ?_, m, as[m], φ, rfl, hf, hφ, ?_⟩
        · rw [atI_nn (by omega)]
          show (as.map V.ref)[m]? = _
          rw [List.getElem?_map, hf]
          rfl
        have g01 := g0.trans g1
        refine h H0 F1 H1 σ ρ z _ _ (R.up g01) h1 (fun c e F' H' gr => he c e F' H' (g01.trans gr)) fun ys vs F2 H2 g2 o2 e2 => ?_
        have g012 := g01.trans g2
        exact ⟨F2, ys, z, g2.s, o2, e2, fun v F' H' g ok => hq v F' H' (g012.trans g) (ok.back g012.h), fun c e H' s => he c e F2 H' ⟨g012.f, g012.h.trans s, g012.s.trans s, g012.o⟩⟩
      · cases h1
    · cases h1
  · cases h1
end
/-- names of defs, each with its promise -/
structure PKX (X : Cx) (K : PySem.W.Frag) (CA : EvC) (k : Nat) (es : List Expr) (t : TA) (as : List Addr) (φs : List (List PV → Option ER)) : Prop where
  pa : PA X es t
  ta : ∀ (σ : L2.St) (H : Hp) (Q : List V → Hp → Prop), Q (as.map V.ref) H → t σ H Q
  len : as.length = φs.length
  fn : ∀ (i : Nat) (f : Addr) (φ : List PV → Option ER), as[i]? = some f → φs[i]? = some φ → ∃ (fd : FuncData) (ps : List Str), FnOk X.prog X.w X.K X.mg X.base (L2.CX X.prog X.w) k f fd ps (spD K CA φ) ∧ PySem.W.keepIn X.K (.ref f) = true ∧ Binds X.K fd ps []
section
variable {X : Cx} {K : PySem.W.Frag} {CA : EvC} {W : WX} {e ei : Expr} {es elts : List Expr} {pos p p1 p2 : Pos} {ti : TE} {fi : CF} {t : TA} {fs : List CF} {φs : List (List PV → Option ER)}
theorem pk_n {k : Nat} : ∃ t as, PKX X K CA k [] t as [] := ⟨tNil, [], pa_nil, fun _ _ _ h => h, rfl, fun i f φ h => by simp at h⟩
theorem pk_c {k j : Nat} {x : Str} {φ : List PV → Option ER} (G : DefAt X.prog X.w K X.mg X.base CA k x φ) (hk : k ≤ j) (r : ∃ t as, PKX X K CA j elts t as φs) (hK : X.K = K := by rfl) (hg : Gl X x := by rfl) (hdb : (x == ("__debug__" : Str)) = false := by decide)
    (hs : starEach (.Name x p :: elts) X.env = (false, eval (.Name x p) X.env) :: starEach elts X.env := by rfl) : ∃ t as, PKX X K CA j (.Name x p :: elts) t as (φ :: φs) := by
  subst hK
  obtain ⟨t, as, q⟩ := r
  obtain ⟨f, fd, ps, F, hm, hkp, hb⟩ := G.ex
  refine ⟨tCons (tC (.ref f)) t, f :: as, pa_cons (pe_glob hg hm rfl hdb) q.pa hs, fun σ H Q h => q.ta σ H _ h, by simp [q.len], fun i g ψ h1 h2 => ?_⟩
  cases i with
  | zero =>
    cases h1
    cases h2
    exact ⟨fd, ps, F.mono hk, hkp, hb⟩
  | succ i => exact q.fn i g ψ (by simpa using h1) (by simpa using h2)
theorem px_pick {k j : Nat} {A' : Around} (h : ∃ t as, PKX X K CA k elts t as φs) (hr : Room j A') (hj : k ≤ j) (tk : Takes X W) (hi : PX X K CA W ei ti fi) (ha : PAX X K CA W (e :: es) t fs) (hφ : φs.length ≤ 1000 := by decide) (hA : A' = X.A := by rfl) (hix : PlainIx ei := by intro _ _; rfl)
    (ht : eval (.Call (.Subscript (.List elts p1) ei p2) (e :: es) [] pos) X.env = (do callWith pos (← eval (.Subscript (.List elts p1) ei p2) X.env) [] (backTo pos (starEach (e :: es) X.env)) (backToKw pos (keywordEach [] X.env))) := by rfl)
    (he : starEach (e :: es) X.env = (false, eval e X.env) :: starEach es X.env := by rfl) (hpl : (backTo pos (starEach es X.env)).any (·.1) = false := by rfl) (hK : X.K = K := by rfl) :
    PX X K CA W (.Call (.Subscript (.List elts p1) ei p2) (e :: es) [] pos) (tPick K CA W φs ti t) (cPick φs fi fs) := by
  subst hK
  subst hA
  refine ⟨⟨fun pins s σ H Q I hQ => ?_⟩, de_pick hi.de ha.da⟩
  obtain ⟨tl, as, q⟩ := h
  refine Call_ (thn ((pe_ix (pos := p2) ix_seq (pe_lst (pos := p1) q.pa) hi.pe hix).run pins s σ H (fun y H1 => ∃ (i : Nat) (f : Addr) (φ : List PV → Option ER), y = .ref f ∧ as[i]? = some f ∧ φs[i]? = some φ ∧ t σ H1 fun vs H2 => spD X.K CA φ vs H2 Q (WE W σ)) I ?_) fun u s1 ⟨y, H1, I1, ry, i, f, φ, ey, hfi, hφi, q1⟩ => ?_) ht
  · refine q.ta σ H _ ⟨?_, fun p hp => ?_⟩
    · rw [List.length_map, q.len, sizeLine_eq]
      omega
    · exact hQ as q.len p hp
  · subst ey
    cases ry
    obtain ⟨fd, ps, F, hk, hb⟩ := q.fn i f φ hfi hφi
    refine PySem.W.callWith_K (h₀ := X.base) I1.ok.mod.kin hk (thn (ha.pa.run pos pins s1 σ H1 _ I1 q1) fun us s2 ⟨vs, H2, I2, r, q2⟩ => ⟨I2.kIn, ?_⟩) he hpl
    exact run_fnS F (hr.mono hj) hb (passAt tk σ) I2 r q2
end
/-! ### xs.count(b), xs.index(b), a list of bools -/
def cML (g : List PV → PV → Option ER) (f1 f2 : CF) : CF := fun ρ => e1 (fun x => match x with
  | .l xs => e1 (g xs) (f2 ρ)
  | _ => none) (f1 ρ)
def gCount (xs : List PV) : PV → Option ER
  | .b k => (blsOf xs).map fun bs => .d (.i (bs.count k : Nat))
  | _ => none
def gIndex (xs : List PV) : PV → Option ER
  | .b k => (blsOf xs).bind fun bs => if k ∈ bs then some (.d (.i (bs.idxOf k : Nat))) else none
  | _ => none
def rCntB (K : PySem.W.Frag) : V → List V → Hp → VK → Prop := fun x xs H Q => ∃ (p : Addr) (bs : List Bool) (k : Bool), x = .ref p ∧ xs = [.bl k] ∧ SqL K H p (bs.map V.bl) ∧ Q (.int (bs.count k : Nat)) H
theorem bls_flat (bs : List Bool) : (bs.map V.bl).all flatV = true := List.all_eq_true.mpr fun x hx => by
  obtain ⟨b, _, rfl⟩ := List.mem_map.mp hx
  rfl
theorem bls_count (k : Bool) : ∀ {bs : List Bool} {zs : List Value}, Vals (bs.map V.bl) zs → zs.countP (eqU (.bl k)) = bs.count k
  | [], _, .nil => rfl
  | b :: bs, z :: zs, .cons r t => by
    rw [List.countP_cons, List.count_cons, bls_count k t, eqU_of (x := .bl k) (y := .bl b) r rfl]
    rfl
theorem mt_cntB {X : Cx} : MtR X "list.count" (rCntB X.K) := by
  intro pins s σ H x xs v us Q I rx rxs hh
  obtain ⟨p, bs, k, ex, exs, hs, hq⟩ := hh
  subst ex exs
  cases rx
  obtain ⟨u, rfl, ru⟩ := rxs.one
  have eu : u = Value.bool k := ru
  subst eu
  obtain ⟨zs, rv, ⟨⟨c0, d0, dt, sl⟩, m, h1, h2, _, h4⟩, _⟩ := I.list hs
  simp only at h2 h4
  subst h2 h4
  have eat := mem_eqAt (x := V.bl k) (v := Value.bool k) (A := X.A.in1) (s := s) rfl rfl rv (bls_flat bs)
  refine call_meets PySem.F.slot_list_count ⟨_, h1, rfl⟩ PySem.F.entry_list_count (PySem.F.args_list_count_2 _ _) (SeqAt.list_countAt p zs.toArray m d0 sl (.bool k) (eqU (.bl k))) ⟨h1, fun y hy => eat y (by simpa using hy), ?_⟩
  refine ⟨.int (bs.count k : Nat), H, I.tok _, ⟨s.toks, ?_⟩, hq⟩
  have e : zs.toArray.toList.countP (eqU (.bl k)) = bs.count k := bls_count k rv
  rw [e]
section
variable {K : PySem.W.Frag} {CA : EvC} {W : WX} {te ta tb : TE} {f1 f2 : CF} {F0 H0 F H : Hp} {σ : L2.St} {ρ : Sl}
def OpL (K : PySem.W.Frag) (r : V → List V → Hp → VK → Prop) (g : List PV → PV → Option ER) : Prop := ∀ (F H : Hp) (p : Addr) (vs : List V) (xs : List PV) (y : V) (b : PV) (z : ER) (Q : VK), Same F H → H p = some (.lst vs) → Dats K F vs xs → Val K F H y b → g xs b = some z →
  (∀ v F' H', Gr F H F' H' → VOk K H F' H' v z → Q v H') → r (.ref p) [y] H Q
theorem de_ml {r : V → List V → Hp → VK → Prop} {g : List PV → PV → Option ER} (ho : OpL K r g) (ha : DE K CA W ta f1) (hb : DE K CA W tb f2) : DE K CA W (tBM K "list" r ta (tCons tb tNil)) (cML g f1 f2) := by
  intro H0 F H σ ρ z Q R hz hq he
  refine ha.go R hz he fun x v F1 H1 g1 o1 h1 => ?_
  cases x with
  | l xs =>
    obtain ⟨p, vs, rfl, hp, hs⟩ := o1.l g1.s
    refine ⟨.inl ⟨rfl, vs, SqL.of hp⟩, ?_⟩
    refine hb.go (R.up g1) h1 (fun c e F' H' gr => he c e F' H' (g1.trans gr)) fun y w F2 H2 g2 o2 h2 => ?_
    exact ho F2 H2 p vs xs w y z Q g2.s (g2.h _ _ hp) (hs.mono g2.f) o2 h2 fun u F' H' g3 ok => hq u F' H' (g1.trans (g2.trans g3)) (ok.back (g1.h.trans g2.h))
  | _ => cases h1
theorem op_cnt : OpL K (rCntB K) gCount := by
  intro F H p vs xs y b z Q s hp hs hy e k
  unfold gCount at e
  split at e
  · rename_i kb
    cases hb : blsOf xs with
    | none => rw [hb] at e; cases e
    | some bs =>
      rw [hb] at e
      cases e
      rw [blsOf_eq hb] at hs
      rw [hs.bls] at hp
      exact ⟨p, bs, kb, rfl, by rw [hy.b], SqL.of hp, k _ F H (Gr.refl s) (Dat.i _)⟩
  · cases e
theorem op_idxB : OpL K (rIndex K) gIndex := by
  intro F H p vs xs y b z Q s hp hs hy e k
  unfold gIndex at e
  split at e
  · rename_i kb
    cases hb : blsOf xs with
    | none => rw [hb] at e; cases e
    | some bs =>
      rw [hb] at e
      dsimp only [Option.bind] at e
      split at e
      · rename_i hin
        cases e
        rw [blsOf_eq hb] at hs
        rw [hs.bls] at hp
        have hlt := List.idxOf_lt_length_iff.mpr hin
        refine ⟨p, _, .bl kb, bs.idxOf kb, .bl kb, rfl, by rw [hy.b], SqL.of hp, rfl, bls_flat bs, ?_, ?_, fun m z' hm hz => ?_, k _ F H (Gr.refl s) (Dat.i _)⟩
        · rw [List.getElem?_map, List.getElem?_eq_getElem hlt, List.getElem_idxOf hlt]
          rfl
        · simp [eqV]
        · rw [List.getElem?_map, List.getElem?_eq_getElem (by omega)] at hz
          cases hz
          have := List.not_of_lt_findIdx hm
          simpa [eqV] using this
      · cases e
  · cases e
end
section
variable {X : Cx} {K : PySem.W.Frag} {CA : EvC} {W : WX} {o e : Expr} {ta tb : TE} {fa fb : CF} {apos cpos : Pos}
theorem px_cnt (h0 : PX X K CA W o ta fa) (h : PX X K CA W e tb fb) (hbase : attributeBase o "count" X.env (eval o X.env) = eval o X.env := by rfl)
    (hfew : ((backTo cpos (starEach [e] X.env)).all (fun x => !x.1) && (backToKw cpos (keywordEach [] X.env)).all (fun x => x.1.isSome)
      && decide (([e] : List Expr).length + ([] : List Keyword).length + (if ([] : List Keyword).isEmpty then 0 else 1) < 30)) = true := by rfl)
    (hline : (apos.endLine == cpos.line) = true := by rfl) (hs : starEach [e] X.env = (false, eval e X.env) :: starEach [] X.env := by rfl) (hK : X.K = K := by rfl) :
    PX X K CA W (.Call (.Attribute o "count" apos) [e] [] cpos) (tBM K "list" (rCntB K) ta (tCons tb tNil)) (cML gCount fa fb) := by
  subst hK
  exact ⟨pe_bm PySem.F.plainAttrs_list PySem.F.slot_list_count PySem.F.type_list_count mt_cntB h0.pe (pax1 h hs) hbase hfew hline hs rfl, de_ml op_cnt h0.de h.de⟩
theorem px_idx (h0 : PX X K CA W o ta fa) (h : PX X K CA W e tb fb) (hbase : attributeBase o "index" X.env (eval o X.env) = eval o X.env := by rfl)
    (hfew : ((backTo cpos (starEach [e] X.env)).all (fun x => !x.1) && (backToKw cpos (keywordEach [] X.env)).all (fun x => x.1.isSome)
      && decide (([e] : List Expr).length + ([] : List Keyword).length + (if ([] : List Keyword).isEmpty then 0 else 1) < 30)) = true := by rfl)
    (hline : (apos.endLine == cpos.line) = true := by rfl) (hs : starEach [e] X.env = (false, eval e X.env) :: starEach [] X.env := by rfl) (hK : X.K = K := by rfl) :
    PX X K CA W (.Call (.Attribute o "index" apos) [e] [] cpos) (tBM K "list" (rIndex K) ta (tCons tb tNil)) (cML gIndex fa fb) := by
  subst hK
  exact ⟨pe_bm PySem.F.plainAttrs_list PySem.F.slot_list_index PySem.F.type_list_index mt_index h0.pe (pax1 h hs) hbase hfew hline hs rfl, de_ml op_idxB h0.de h.de⟩
end
end DD
/-! rows for simp: a def out of a list, count, index -/
namespace DD
open PySem PySem.Spec L2
section
variable {f fi f1 f2 : CF} {fs : List CF} {ρ : Sl} {xs : List PV} {n : Int} {k : Bool} {o : Option ER} {φs : List (List PV → Option ER)}
def pk (φs : List (List PV → Option ER)) (fs : List CF) (ρ : Sl) : PV → Option ER
  | .i n => if 0 ≤ n then (match φs[n.toNat]? with
    | some φ => cA φ fs ρ
    | none => none) else none
  | _ => none
@[simp] theorem pk_i : pk φs fs ρ (.i n) = if 0 ≤ n then (match φs[n.toNat]? with
    | some φ => cA φ fs ρ
    | none => none) else none := rfl
@[simp] theorem cPick_ap : cPick φs fi fs ρ = e1 (pk φs fs ρ) (fi ρ) := rfl
def ml (g : List PV → PV → Option ER) (o : Option ER) : PV → Option ER
  | .l xs => e1 (g xs) o
  | _ => none
@[simp] theorem ml_l {g : List PV → PV → Option ER} : ml g o (.l xs) = e1 (g xs) o := rfl
@[simp] theorem cML_ap {g : List PV → PV → Option ER} : cML g f1 f2 ρ = e1 (ml g (f2 ρ)) (f1 ρ) := rfl
@[simp] theorem gCount_b : gCount xs (.b k) = (blsOf xs).map fun bs => .d (.i (bs.count k : Nat)) := rfl
@[simp] theorem gIndex_b : gIndex xs (.b k) = (blsOf xs).bind fun bs => if k ∈ bs then some (.d (.i (bs.idxOf k : Nat))) else none := rfl
end
end DD
/-! name = [elt for .. in ..] whose element may let an exception out -/
namespace DD
open PySem PySem.Spec L2
theorem inv_xe {X : Cx} {pins : List (Addr × Obj)} {σ : L2.St} {H : Hp} {s : Shared} (e : Value → Shared → Prop) (I : L2.Inv X pins σ H s) : L2.Inv { X with xe := e } pins σ H s :=
  ⟨⟨I.ok.mod, I.ok.kind, I.ok.glob, I.ok.blt, I.ok.above, I.ok.inj, I.ok.has, I.ok.cab, I.ok.hd, I.ok.frames, I.ok.stk, I.ok.exf, I.ok.bs, I.ok.bsz, I.ok.noex, I.ok.exfs, I.ok.funs, I.ok.frf⟩, I.os, I.bare, I.base, I.loc, I.cell, I.free, I.freeC, I.pin, I.hok, I.len⟩
/-- what flies up out of a call -/
structure XF (X : Cx) (W : WX) (a : Addr) (s' : Shared) : Prop where
  ex : ∃ (cls : Value) (d : Option Addr) (σ : L2.St) (H : Hp) (B : Heap) (sI : Shared) (pins : List (Addr × Obj)), W cls d σ H ∧ L2.Inv X pins σ H sI ∧ HandSPX.FlyingZ B X.stack a (Zc cls d) s'.heap ∧
    (∀ (b : Addr) (o : Obj), sI.heap.get? b = some o → b ∉ frs X.stack → B.get? b = some o) ∧ sI.heap.UpToSlots s'.heap ∧ H a = none ∧ s'.os = sI.os ∧ PyProof.Rows.AllBare s'.gens
def TakesF (X : Cx) (W : WX) : Prop := ∀ (a : Addr) (s' : Shared), XF X W a s' → X.xe (.ref a) s'
theorem xf_of_call {X : Cx} {W : WX} {pins : List (Addr × Obj)} {σ : L2.St} {H : Hp} {s s' : Shared} {u : Value} (I : L2.Inv X pins σ H s) (c : L2.CX X.prog X.w X.stack H s (WE W σ) u s') : ∃ a, u = .ref a ∧ XF X W a s' := by
  have c2 := c
  obtain ⟨a0, B0, _, _, _, e0, fl0, _⟩ := c2
  obtain ⟨a, B, sI, pins', σ', H', cls, d, e, J, nb, up, sky, na, os, ag, w⟩ := XE.of_call (W := W) I (fun _ _ _ h => h) c
  rw [e0] at e
  cases e
  refine ⟨a0, e0, ⟨cls, d, σ', H', B, sI, pins', w, J, ?_, nb, up, na, os, ag⟩⟩
  obtain ⟨_, _, _, oe, vs, T, oT, ts, he, _, hd, h1, _, _, hT, hdT, h3⟩ := fl0
  rcases sky with ⟨_, _, _, oe', vs', he', _, hd', h1'⟩ | fl | ⟨_, _, _, oe', vs', T', oT', ts', he', _, hd', h1', _, _, hT', hdT', h3'⟩
  · rw [he] at he'
    cases he'
    rw [hd] at hd'
    cases hd'
    rw [h1] at h1'
    cases h1'
  · exact fl
  · rw [he] at he'
    cases he'
    rw [hd] at hd'
    cases hd'
    rw [h1] at h1'
    cases h1'
    rw [hT] at hT'
    cases hT'
    rw [hdT] at hdT'
    cases hdT'
    rw [h3] at h3'
    cases h3'
theorem passF {X : Cx} {W : WX} (tk : TakesF X W) (σ : L2.St) : PassesAt (L2.CX X.prog X.w) X σ (WE W σ) := fun _ _ _ e s' I c => by
  obtain ⟨a, rfl, x⟩ := xf_of_call I c
  exact tk a s' x
section
variable {X : Cx} {K : PySem.W.Frag} {CA : EvC} {W : WX} {e : Expr} {es : List Expr} {te : TE} {t : TA} {fs : List CF} {p pos : Pos}
theorem px_callF {k j : Nat} {x : Str} {φ : List PV → Option ER} (G : DefAt X.prog X.w K X.mg X.base CA k x φ) {A' : Around} (hr : Room j A') (hj : k ≤ j) (tk : TakesF X W) (ha : PAX X K CA W (e :: es) t fs) (hA : A' = X.A := by rfl) (hg : Gl X x := by rfl) (hdb : (x == ("__debug__" : Str)) = false := by decide)
    (he : starEach (e :: es) X.env = (false, eval e X.env) :: starEach es X.env := by rfl) (hpl : (backTo pos (starEach es X.env)).any (·.1) = false := by rfl) (hK : X.K = K := by rfl) :
    PX X K CA W (.Call (.Name x p) (e :: es) [] pos) (tCallS (spD K CA φ) (WE W) t) (cCall φ fs) := by
  subst hK
  obtain ⟨fa, fd, ps, F, hm, hk, hb⟩ := G.ex
  subst hA
  exact ⟨pe_callS F (hr.mono hj) hg hm hk hb (fun σ => passF tk σ) ha.pa hdb he hpl, de_call ha.da⟩
end
/-! ### heaps -/
theorem note_same {u : Value} {env env' : Env} (h : env.frame = env'.frame) : noteFrame u env = noteFrame u env' := by
  unfold noteFrame frameOf
  rw [h]
theorem frames_but {B B' h h' : Heap} {C : Addr} (sb : Heap.SameBut C h h') (hB : ∀ b, b ≠ C → B'.get? b = B.get? b) : ∀ {l : List Env}, C ∉ frs l → h.FunFrames B l → h'.FunFrames B' l
  | [], _, _ => trivial
  | env :: l, hC, ⟨hk, ⟨L, o, hf, hn, ho, hd⟩, hr⟩ => by
    have hL : L ≠ C := fun q => hC (by rw [← q]; exact List.mem_filterMap.mpr ⟨env, List.mem_cons_self, hf⟩)
    refine ⟨hk, ⟨L, o, hf, (hB L hL).trans hn, (sb.2 L hL).trans ho, hd⟩, frames_but sb hB (fun q => hC ?_) hr⟩
    obtain ⟨e, he, q⟩ := List.mem_filterMap.mp q
    exact (List.mem_filterMap.mpr ⟨e, List.mem_cons_of_mem _ he, q⟩)
theorem held_but {B h h' : Heap} {l : List Env} {a C L : Addr} {Z : Obj → Prop} {m : Str → Option Value} (x : HandSPX.HeldZ B l a Z L h) (hn : h.Ns C m) (hC : C ∉ frs l) (sb : Heap.SameBut C h h') :
    ∃ B' : Heap, (∀ b, b ≠ C → B'.get? b = B.get? b) ∧ B'.get? C = none ∧ HandSPX.HeldZ B' l a Z L h' := by
  obtain ⟨B', r1, r2⟩ := restrict B fun b => decide (b ≠ C)
  have b1 : ∀ b, b ≠ C → B'.get? b = B.get? b := fun b hb => r1 b (by simp [hb])
  have b2 : B'.get? C = none := r2 C (by simp)
  obtain ⟨x1, x2, x3, oe, vs, T, oT, ts, he, hz, hd, h1, hnT, hTe, hT, hdT, h3⟩ := x
  obtain ⟨o, es, ep, ho, hdo, _⟩ := hn
  have haC : a ≠ C := fun q => by
    rw [← q, he] at ho
    cases ho
    rw [hd] at hdo
    cases hdo
  have hTC : T ≠ C := fun q => by
    rw [← q, hT] at ho
    cases ho
    rw [hdT] at hdo
    cases hdo
  refine ⟨B', b1, b2, fun b o e => ?_, (b1 a haC).trans x2, frames_but sb b1 hC x3, oe, vs, T, oT, ts, (sb.2 a haC).trans he, hz, hd, h1, (b1 T hTC).trans hnT, hTe, (sb.2 T hTC).trans hT, hdT, h3⟩
  have hb : b ≠ C := fun q => by
    rw [q, b2] at e
    cases e
  exact (sb.2 b hb).trans (x1 b o ((b1 b hb).symm.trans e))
/-- the block's context, the wish given -/
abbrev blx (X : Cx) (s : Shared) (H : Hp) (scope : Scope) (ce : Env) (fp : List Addr) (xe : Value → Shared → Prop) : Cx := { X.blk s H scope ce fp with xe := xe }
section
variable {X : Cx} {W : WX}
/-- an exception out of the block: noted, the block's names let go, passed on -/
theorem xf_lets {pins : List (Addr × Obj)} {σ : L2.St} {H3 : Hp} {s3 s5 : Shared} {scope : Scope} {ce : Env} {fp : List Addr} {xe E₁ : Value → Shared → Prop} {a : Addr} {Q : Value → Shared → Prop} (I3 : L2.Inv X pins σ H3 s3) (hs : X.stack = X.env :: X.outer) (hf : X.env.frame = some X.env.locals) (tk : Takes X W)
    (hσ : ∀ (c : Value) (d : Option Addr) (σ σ' : L2.St) (H : Hp), W c d σ H → W c d σ' H) (hC : ce.locals = s3.heap.objs.size) (hce : ce.frame = X.env.frame)
    (hfp : ∀ b ∈ fp, (b ∈ X.ex ∨ X.s_0.heap.objs.size ≤ b) ∧ b ≠ X.env.locals ∧ (∀ x c, X.env.cells.lookup x = some c → c ≠ b) ∧ ∀ p ∈ X.pn ++ pins, p.1 ≠ b) (x : XF (blx X s3 H3 scope ce fp xe) W a s5) :
    wpAny (model X.prog X.w) X.A (noteFrame (.ref a) ce) (fun _ s6 => ∃ m, s6.heap.Ns ce.locals m ∧ ∀ h', Heap.SameBut ce.locals s6.heap h' → wpAny (model X.prog X.w) X.A (passOn "comprehension.variables-let-go" (.ref a) ce) Q X.xe { s6 with heap := h' }) E₁ s5 := by
  obtain ⟨cls, d, σ5, H5, B, sI, pins5, w, J, fl, nb, up, na, os, ag⟩ := x.ex
  have hfr : X.A.frames = some (X.env :: X.outer) := by rw [I3.ok.frames, hs]
  have fl' : HandSPX.FlyingZ B (X.env :: X.outer) a (Zc cls d) s5.heap := by
    rw [← hs]
    exact fl
  rw [note_same hce]
  refine HandSPX.looks_onZ Zc.steady hfr hf fl' fun h1 hh up1 => ?_
  have hCs : ce.locals ∉ frs X.stack := fun q => by
    obtain ⟨_, o, ho, _⟩ := I3.stack.mem q
    have := Heap.lt_size ho
    rw [hC] at this
    exact Nat.lt_irrefl _ this
  obtain ⟨m, hn, _⟩ := J.loc
  have hn : sI.heap.Ns ce.locals m := hn
  have hn1 : h1.Ns ce.locals m := by
    obtain ⟨o, l1, l2, ho, rr⟩ := hn
    exact ⟨o, l1, l2, hh.1 _ _ (nb _ _ ho hCs), rr⟩
  refine ⟨m, hn1, fun h' sb => ?_⟩
  obtain ⟨B', b1, b2, hh'⟩ := held_but hh hn1 (by rw [← hs]; exact hCs) sb
  obtain ⟨G, r1, r2⟩ := restrict sI.heap fun b => decide (b ≠ ce.locals)
  have g1 : ∀ b, b ≠ ce.locals → G.get? b = sI.heap.get? b := fun b hb => r1 b (by simp [hb])
  have g2 : ∀ b o, G.get? b = some o → b ≠ ce.locals := fun b o e q => by
    rw [q, r2 ce.locals (by simp)] at e
    cases e
  have old : ∀ b o, s3.heap.get? b = some o → b ≠ ce.locals := fun b o e q => by
    have := Heap.lt_size e
    rw [q, hC] at this
    exact Nat.lt_irrefl _ this
  have U := J.base
  have hokG : HOk X.prog X.w H5 G := fun b o q => (J.hok b o q).stay (fun c u hc r => (g1 c fun z => by
      have f := J.free
      have f : H5 ce.locals = none := f
      rcases hc with hc | hc
      · rw [← hc, z, f] at q
        cases q
      · rw [z, f] at hc
        cases hc).trans r) (fun _ r => r) fun _ _ r => r
  have IG : L2.Inv X pins σ H5 { sI with heap := G } := by
    refine I3.call' (ch := fp) J.os ⟨fun b o e n hb hx => ?_, fun b o e n hb hx => ?_, U.free, fun b o e hx => ?_, U.tups, U.frzs, U.tbls⟩ hokG J.bare hfp
    · exact (g1 b (old b o e)).trans (U.keep b o e n hb hx)
    · obtain ⟨sl, q⟩ := U.slot b o e n hb hx
      exact ⟨sl, (g1 b (old b o e)).trans q⟩
    · obtain ⟨o', q⟩ := U.there b o e hx
      exact ⟨o', (g1 b (old b o e)).trans q⟩
  have hcl : ce.frame = some X.env.locals := hce.trans hf
  have hh2 := hh'
  obtain ⟨_, _, _, oe, vs, T, oT, ts, he, hz, hd, hv1, _⟩ := hh2
  unfold passOn
  refine wpAny_bind (wpAny_field he hd hv1 ?_)
  rw [if_neg (by simp : ¬ ((Value.ref T == Value.none) = true))]
  rw [hcl]
  refine wpAny_bind (HandSPX.setFlight_onZ hh' fun h2 hh3 up2 => ?_)
  refine wpAny_throw (tk _ _ ⟨a, B', { sI with heap := G }, pins, σ, H5, cls, d, rfl, IG, fun b o e hb => ?_, fun b o e hnf => ?_, .inr (.inr (by rw [hs]; exact hh3)), na, os, ag, hσ _ _ _ _ _ w⟩)
  · have hb' := g2 b o e
    exact (b1 b hb').trans (nb b o ((g1 b hb').symm.trans e) hb)
  · have hb' := g2 b o e
    obtain ⟨s1, q1⟩ := up b o ((g1 b hb').symm.trans e) hnf
    obtain ⟨s2, q2⟩ := up1 b _ q1 hnf
    obtain ⟨s3', q3⟩ := up2 b _ ((sb.2 b hb').trans q2) hnf
    exact ⟨s3', q3⟩
end
/-! ### the walk -/
theorem clo_none {cells : List (Str × Addr)} : ∀ {names : List (Str × NameKind)} {acc : List (Str × Addr)}, (∀ z ∈ names, z.2 ≠ .free) → cloFrom cells names acc = acc
  | [], _, _ => rfl
  | (m, k) :: r, acc, h => by
    have hk : (k == NameKind.free) = false := by simpa using h (m, k) List.mem_cons_self
    unfold cloFrom
    rw [hk]
    exact clo_none fun z hz => h z (List.mem_cons_of_mem _ hz)
theorem rel_none {scope : Scope} {env : Env} (h : ∀ z ∈ scope.names, z.2 ≠ .free) : relabel scope env = scope := by
  unfold relabel
  rw [map_eq_self (l := scope.names) fun x hx => by
    obtain ⟨n, k⟩ := x
    have hk : (k == NameKind.free) = false := by simpa using h _ hx
    simp [hk]]
/-- the block's names when it takes none from outside -/
def ceX (scope : Scope) (n : Nat) (env : Env) : Env :=
  { scope := scope, locals := n, globals := env.globals, cells := cellsFrom (n + 1) scope.names [], qual := env.qual, func := none, code := env.code, frame := env.frame, builtins := env.builtins }
theorem ceX_eq {scope : Scope} {n : Nat} {env : Env} (h : ∀ z ∈ scope.names, z.2 ≠ .free) : compEnvC scope (cellsFrom (n + 1) scope.names (cloFrom env.cells scope.names [])) n env = ceX scope n env := by
  unfold compEnvC ceX
  rw [rel_none h, clo_none h]
/-- what comes after the block, the value stored -/
def postX (X : Cx) (pins : List (Addr × Obj)) (Z : Ends) (to : Expr) (L : Value) (ce : Env) : Result → Shared → Prop := fun r s' => match r with
  | .ok _ => wpAny (model X.prog X.w) X.A (assign to X.env L) (fun _ s2 => ∃ m, s2.heap.Ns ce.locals m ∧ ∀ h', Heap.SameBut ce.locals s2.heap h' → SP X pins Z .next { s2 with heap := h' }) X.xe s'
  | .error x => ∃ m, s'.heap.Ns ce.locals m ∧ ∀ h', Heap.SameBut ce.locals s'.heap h' → wpAny (model X.prog X.w) X.A (passOn "comprehension.variables-let-go" x ce : Sem Value) (fun (_ : Value) s3 => SP X pins Z .next s3) X.xe { s' with heap := h' }
section
variable {X : Cx} {W : WX}
theorem ps_setLcX {i : Nat} {y : Str} {py : Pos} {elt tg iter : Expr} {ifs : List Expr} {scope : Scope} {own : List (Str × Nat)} {pos sp : Pos} {wi : TI} {g : TG} {tt : TT} {te : TE}
    (hs0 : X.stack = X.env :: X.outer) (hf : X.env.frame = some X.env.locals) (tk : Takes X W) (hσ : ∀ (c : Value) (d : Option Addr) (σ σ' : L2.St) (H : Hp), W c d σ H → W c d σ' H) (hfree : ∀ z ∈ scope.names, z.2 ≠ .free)
    (hc : X.calm = true) (hN : X.N.Nodup) (hy : X.N[i]? = some y) (hyl : X.env.scope.names.lookup y = some .local)
    (swp : swapsWith (.ListComp elt [⟨tg, iter, ifs, 0⟩] scope pos) (some (.Name y py)) sp.line X.env = pure true) (hi : PI X tg iter wi) (ok : BlkOk X.N X.env.scope scope own)
    (hg : ∀ (sb : Shared) (Hb : Hp) (C : Addr) (cl : List (Str × Addr)) (its : List Addr), PG (X.blk sb Hb scope (compEnvC scope cl C X.env) its) tg g) (ht : ∀ (sb : Shared) (Hb : Hp) (C : Addr) (cl : List (Str × Addr)) (its : List Addr), PTs (X.blk sb Hb scope (compEnvC scope cl C X.env) its) ifs tt)
    (he : ∀ (sb : Shared) (Hb : Hp) (C : Addr) (cl : List (Str × Addr)) (its : List Addr) (xe : Value → Shared → Prop), TakesF (blx X sb Hb scope (compEnvC scope cl C X.env) its xe) W → PE (blx X sb Hb scope (compEnvC scope cl C X.env) its xe) elt te)
    (hs : ∀ x, foldedSetIterable iter X.env x = pure x := by intro _; rfl) :
    PS X (.Assign [.Name y py] (.ListComp elt [⟨tg, iter, ifs, 0⟩] scope pos) sp) (tAsg (tLc wi g tt te (own.map (·.2))) (gName i)) := by
  refine ⟨fun pins s σ H Z I hZ => ?_⟩
  rw [exec_Assign_Name_used (hs := swp)]
  apply wpAny_bind
  refine wpAny_standAt (wpAny_bind ?_)
  change wpAny _ X.A (do let _ ← comprehension (.ListComp elt [⟨tg, iter, ifs, 0⟩] scope pos) scope X.env (firstIterPos [⟨tg, iter, ifs, 0⟩] pos) (newList []) false (eval iter X.env) (some (assign (.Name y py) X.env))) _ _ s
  have hZ : tLc wi g tt te (own.map (·.2)) σ H (fun x G1 => gName i x σ G1 Z.nx) := hZ
  refine wpAny_bind (thn (wpAny_comprehension_use (Q := fun _ s' => SP X pins Z .next s') rfl hs hfree ok.kind (fun z hz e => by rw [ok.uniq z hz, e])
    (thn (hi.run pins s σ H _ I hZ) fun xv u1 hx => thn hx fun itv u2 h2 => ?_)) fun _ s' hq => wpAny_pure (wpAny_pure hq))
  obtain ⟨it, its, tn, J, G2, e, j2, T, tr2, f2, q⟩ := h2
  subst e
  have zs : 0 ≤ sizeLine := by decide
  refine wpAny_newObj_type (newEnv_comp ?_) zs
  generalize eqL : u2.heap.objs.size = L
  have hLn : G2 L = none := j2.hok.fresh (Nat.le_of_eq eqL)
  obtain ⟨Ph, ⟨m0, w0⟩, turn⟩ := q L hLn
  generalize hs3 : ({ u2 with heap := u2.heap.push { cls := .type "list", data := .seq ([] : List Value).toArray } } : Shared) = u3
  have j3 : L2.Inv X pins σ (upd G2 L (.lst [])) u3 := by
    rw [← hs3]
    refine j2.laid (t' := u2.toks) (fun b o e => Heap.get?_push_of_some _ e) (Nat.le_of_eq eqL) ⟨Nat.zero_le _, [], 0, .nil, ?_⟩
    rw [← eqL]
    exact (Heap.get?_push_size _ rfl)
  have h3 : u3.heap = u2.heap.push { cls := .type "list", data := .seq ([] : List Value).toArray } := by rw [← hs3]
  have f3 : ∀ b ∈ its, FpOk X pins (upd G2 L (.lst [])) b ∧ b < u3.heap.objs.size := fun b hb => by
    obtain ⟨o, e, _⟩ := T.obj _ _ tr2 _ hb
    have blt := Heap.lt_size e
    refine ⟨⟨?_, (f2 b hb).2⟩, by rw [h3, Heap.size_push]; exact Nat.lt_succ_of_lt blt⟩
    rw [upd_ne (by rw [← eqL]; exact Nat.ne_of_lt blt)]
    exact (f2 b hb).1
  have tr3 : tn 0 u3.heap := T.keep _ _ _ tr2 fun b _ o e => by
    rw [h3]
    exact (Heap.get?_push_of_some _ e)
  have j4 := block_start j3 ok hN f3
  have pg := hg u3 (upd G2 L (.lst [])) u3.heap.objs.size (cellsFrom (u3.heap.objs.size + 1) scope.names (cloFrom X.env.cells scope.names [])) its
  have pt := ht u3 (upd G2 L (.lst [])) u3.heap.objs.size (cellsFrom (u3.heap.objs.size + 1) scope.names (cloFrom X.env.cells scope.names [])) its
  have pe := he u3 (upd G2 L (.lst [])) u3.heap.objs.size (cellsFrom (u3.heap.objs.size + 1) scope.names (cloFrom X.env.cells scope.names [])) its
  show codeAny _ _ (.compStart (.ListComp elt [⟨tg, iter, ifs, 0⟩] scope pos) 0 (.ref it) (.ref L) (ceX scope u3.heap.objs.size X.env)) (postX X pins Z (.Name y py) (.ref L) (ceX scope u3.heap.objs.size X.env)) { u3 with heap := pushCells (u3.heap.push { cls := .type "dict", data := .dict #[] }) scope.names }
  rw [← ceX_eq hfree]
  have nfp : ∀ b ∈ its, (upd G2 L (.lst [])) b = none := fun b hb => (f3 b hb).1.1
  generalize hce : compEnvC scope (cellsFrom (u3.heap.objs.size + 1) scope.names (cloFrom X.env.cells scope.names [])) u3.heap.objs.size X.env = be at j4 pg pt pe ⊢
  have cL : be.locals = u3.heap.objs.size := by subst hce; rfl
  have cF : be.frame = X.env.frame := by subst hce; rfl
  generalize hH3 : upd G2 L (.lst []) = G3 at j3 j4 pg pt pe w0 nfp f3
  generalize hs4 : ({ u3 with heap := pushCells (u3.heap.push { cls := .type "dict", data := .dict #[] }) scope.names } : Shared) = u4 at j4 ⊢
  have tr4 : tn 0 u4.heap := T.keep _ _ _ tr3 fun b _ o e => by
    rw [← hs4]
    exact pushCells_keeps _ _ _ _ (Heap.get?_push_of_some _ e)
  have stat : ∀ {σ' : L2.St} {H' : Hp} {s' : Shared}, L2.Inv (X.blk u3 G3 scope be its) [] σ' H' s' → (∀ b ∈ its, H' b = none) → ∀ b ∈ its, FpOk (X.blk u3 G3 scope be its) [] H' b := fun {σ' H' s'} I' hns b hb =>
    ⟨hns b hb, (I'.ok.exf b hb).1, I'.ok.exfs b hb, .inl hb, fun x c e => (I'.ok.exf b hb).2 x c e, fun p hp => absurd (show p ∈ ([] : List (Addr × Obj)) ++ [] from hp) (by simp)⟩
  have out : ∀ b ∈ its, (b ∈ X.ex ∨ X.s_0.heap.objs.size ≤ b) ∧ b ≠ X.env.locals ∧ (∀ x c, X.env.cells.lookup x = some c → c ≠ b) ∧ ∀ p ∈ X.pn ++ pins, p.1 ≠ b := fun b hb =>
    ⟨(f3 b hb).1.2.2.2.1, (f3 b hb).1.2.1, (f3 b hb).1.2.2.2.2.1, (f3 b hb).1.2.2.2.2.2⟩
  have pe := pe (notedBy (model X.prog X.w) X.A be fun e s' => postX X pins Z (.Name y py) (.ref L) be (.error e) s') fun a s' x => xf_lets j3 hs0 hf tk hσ cL cF out x
  have loop : codeAny (model X.prog X.w) X.A (.compLoop (.ListComp elt [⟨tg, iter, ifs, 0⟩] scope pos) 0 (.ref it) (.ref L) be) (postX X pins Z (.Name y py) (.ref L) be) u4 := by
    refine compLoop_any (fun n s' => ∃ j H', L2.Inv (X.blk u3 G3 scope be its) [] (wipe σ (own.map (·.2))) H' s' ∧ tn j s'.heap ∧ (∀ b ∈ its, H' b = none) ∧ Ph j n H') ?_ m0 ⟨0, G3, j4, tr4, nfp, w0⟩
    rintro n u5 ⟨j, G5, j5, tr5, n5, w5⟩
    rcases turn j n G5 w5 with ⟨stop, qq⟩ | ⟨go, Nx, hNx, step⟩
    · have td := T.done (X.blk u3 G3 scope be its) rfl rfl rfl hc j [] u5 _ G5 (fun _ _ => False) j5 (stat j5 n5) tr5 stop
      refine thnF td fun r u6 ⟨hr, j6⟩ => ?_
      subst hr
      have j7 : L2.Inv X pins σ G5 u6 := j3.call' (ch := its) j6.os j6.base j6.hok j6.bare out
      have noC : G5 u3.heap.objs.size = none := by
        have z : G5 be.locals = none := j6.free
        rw [cL] at z
        exact z
      obtain ⟨m, hns, _⟩ := j6.loc
      have hns : u6.heap.Ns be.locals m := hns
      obtain ⟨z0, z1, z2, z3, z4, z5⟩ := j3.fpOk (Nat.le_refl _) noC
      rw [← cL] at z0 z1 z2 z3 z4 z5
      change wpAny _ _ (assign (.Name y py) X.env (.ref L)) _ _ _
      refine wpAny_assign_Name (store_ok2 (v := V.ref L) j7 hN hy (.inl hyl) rfl (fun u8 j8 ⟨a, sb, ha⟩ => ?_) (.inr hyl))
      have haC : be.locals ≠ a := by
        rcases ha with u | u
        · rw [u]
          exact z1
        · exact fun e => z4 y a u e.symm
      exact ⟨m, hns.sameBut sb haC, fun h9 sb9 => ⟨_, G5, j8.turned (t' := u8.toks) (fun b o hb e => (sb9.2 b hb).trans e) z0 z1 z3 z4 z5, qq⟩⟩
    · have ti := T.item (X.blk u3 G3 scope be its) rfl rfl rfl hc j [] u5 _ G5 (fun _ _ => False) j5 (stat j5 n5) tr5 go
      refine thnF ti fun r u6 ⟨u, hr, h6⟩ => ?_
      subst hr
      refine thnF h6 fun _ u7 ⟨x, G7, j7, r7, y7, tr7, n7⟩ => ?_
      have j7' := j7.pinned (stat j7 n7) (T.obj _ _ tr7)
      refine thnF (pg.run _ u7 _ G7 x u _ j7' r7 (step x G7 y7)) fun _ u8 ⟨σ8, G8, j8, hw8, q8⟩ => ?_
      refine thnF (pt.run _ u8 σ8 G8 _ j8 q8) fun b u9 ⟨G9, j9, q9⟩ => ?_
      have fin : ∀ {s' : Shared} {H' : Hp}, L2.Inv (X.blk u3 G3 scope be its) ([] ++ pinsAt its u7.heap) σ8 H' s' → Nx H' → ∃ m, m < n ∧ ∃ j H', L2.Inv (X.blk u3 G3 scope be its) [] (wipe σ (own.map (·.2))) H' s' ∧ tn j s'.heap ∧ (∀ b ∈ its, H' b = none) ∧ Ph j m H' := fun {s' H'} I' nx => by
        obtain ⟨m', less, w'⟩ := hNx H' nx
        have pinned : ∀ b ∈ its, ∀ o, u7.heap.get? b = some o → s'.heap.get? b = some o ∧ H' b = none := fun b hb o e =>
          let pn := I'.pin (b, o) (List.mem_append_right _ (List.mem_append_right _ (mem_pinsAt hb e)))
          ⟨pn.1, pn.2.1⟩
        have sl : (wipe σ (own.map (·.2))).length = σ8.length := by rw [← hw8, wipe_length]
        refine ⟨m', less, j + 1, H', (I'.unpinned (pins := [])).weak sl (fun k v e => ?_), T.keep _ _ _ tr7 fun b hb o e => (pinned b hb o e).1, fun b hb => ?_, w'⟩
        · rw [← hw8] at e
          exact (wipe_some e).1
        · obtain ⟨o, e, _⟩ := T.obj _ _ tr7 _ hb
          exact (pinned b hb o e).2
      cases b with
      | false =>
        rw [if_neg Bool.false_ne_true] at q9 ⊢
        exact fin j9 q9
      | true =>
        rw [if_pos rfl] at q9 ⊢
        refine wpAny_mono (pe.run _ u9 σ8 G9 _ (inv_xe _ j9) q9) (fun z u10 ⟨yv, G10, j10, r10, acc, hD10, hz10, nx⟩ => ?_) fun _ _ e => e
        have j10 : L2.Inv (X.blk u3 G3 scope be its) ([] ++ pinsAt its u7.heap) σ8 G10 u10 := inv_xe (fun _ _ => False) j10
        exact app_ok (X := X.blk u3 G3 scope be its) j10 hD10 hz10 r10 fun u11 j11 => fin j11 nx
  exact codeAny_compStart_list loop (T.self X.A 0 _ _ _ tr4 loop)
end
/-! ### what it makes -/
def lcGoX (tg : CT) (t : CF) (f : CF) (ρ : Sl) : List PV → List PV → Option ER
  | [], acc => some (.f acc)
  | x :: xs, acc => match tg x ρ with
    | none => none
    | some ρ' => match t ρ' with
      | some (.d (.b true)) => match f ρ' with
        | some (.d y) => lcGoX tg t f ρ xs (acc ++ [y])
        | some (.f ys) => lcGoX tg t f ρ xs (acc ++ [.l ys])
        | some (.e c) => some (.e c)
        | _ => none
      | some (.d (.b false)) => lcGoX tg t f ρ xs acc
      | _ => none
def cLcX (vs : List Nat) (it : CI) (tg : CT) (t f : CF) : CF := fun ρ => it (fun xs => if xs.length ≤ big then lcGoX tg t f (wipeS ρ vs) xs [] else none) ρ
section
variable {K : PySem.W.Frag} {CA : EvC} {W : WX} {tt : TT} {te : TE} {f1 f2 : CF}
theorem de_lcX {wi : TI} {it : CI} {g : TG} {tg : CT} {is vs : List Nat} (hσ : ∀ (c : Value) (d : Option Addr) (σ σ' : L2.St) (H : Hp), W c d σ H → W c d σ' H) (hi : DI K CA W wi it) (hg : DG K g tg is) (ht : DT K CA W0 tt f1) (hf : DE K CA W te f2) (hv : ∀ i ∈ is, i ∈ vs) : DE K CA W (tLc wi g tt te vs) (cLcX vs it tg f1 f2) := by
  intro H0 F H σ ρ z Q R hz hq he
  refine hi H0 F H σ ρ z _ _ R hz he fun xs J F1 H1 g1 wk e1 => ?_
  by_cases hl : xs.length ≤ big
  · have hgo : lcGoX tg f1 f2 (wipeS ρ vs) xs [] = some z := by
      rw [if_pos hl] at e1
      exact e1
    intro L hL
    have R1 : Rep K CA H0 F1 H1 (wipe σ vs) (wipeS ρ vs) := (R.up g1).wipe vs
    have hFL : F1 L = none := g1.s.free hL
    let P : Nat → Hp → Prop := fun i H' => ∃ F' acc as, Gr F1 H1 F' H' ∧ F' L = none ∧ H' L = some (.lst as) ∧ Dats K F' as acc ∧ acc.length ≤ i ∧ lcGoX tg f1 f2 (wipeS ρ vs) (xs.drop i) acc = some z
    refine ⟨fun i m H' => P i H' ∧ i + m = xs.length, ⟨xs.length, ⟨F1, [], [], Gr.new g1.s hL, hFL, upd_same, .nil, Nat.le_refl _, hgo⟩, by omega⟩, ?_⟩
    rintro i m H' ⟨⟨F', acc, as, gr, hFL', hHL, hds, hle, hrest⟩, him⟩
    cases hx : xs[i]? with
    | none =>
      left
      refine ⟨(wk i F' H' gr.f gr.s).2 hx, ?_⟩
      have hdr : xs.drop i = [] := List.drop_eq_nil_of_le (List.getElem?_eq_none_iff.mp hx)
      rw [hdr] at hrest
      have hze : z = .f acc := (Option.some.inj hrest).symm
      exact hq _ F' H' (g1.trans gr) (by
        rw [hze]
        exact ⟨L, as, rfl, g1.h.free hL, hFL', hHL, hds⟩)
    | some d =>
      right
      have hil : i < xs.length := (List.getElem?_eq_some_iff.mp hx).1
      obtain ⟨go, yl⟩ := (wk i F' H' gr.f gr.s).1 d hx
      refine ⟨go, P (i + 1), fun H2 hp => ⟨m - 1, by omega, hp, by omega⟩, fun x H2 hy => ?_⟩
      obtain ⟨F2, g2, hdx⟩ := yl x H2 hy
      have hdrop : xs.drop i = d :: xs.drop (i + 1) := by
        rw [List.drop_eq_getElem_cons hil]
        congr 1
        exact Option.some.inj ((List.getElem?_eq_getElem hil).symm.trans hx)
      rw [hdrop] at hrest
      unfold lcGoX at hrest
      cases htg : tg d (wipeS ρ vs) with
      | none => rw [htg] at hrest; cases hrest
      | some ρ' =>
        rw [htg] at hrest
        have R2 : Rep K CA H0 F2 H2 (wipe σ vs) (wipeS ρ vs) := (R1.up gr).up g2
        refine hg CA H0 F2 H2 _ _ _ x d _ R2 hdx htg fun σ2 R3 c3 => ⟨wipe_chg c3 hv, ?_⟩
        have noL : ∀ {F3 H3 : Hp}, Gr F2 H2 F3 H3 → F3 L = none := fun {F3 H3} g3 => by
          cases e : F3 L with
          | none => rfl
          | some o =>
            rcases (g2.trans g3).o L o e with h | h
            · rw [hFL'] at h; cases h
            · rw [hHL] at h; cases h
        dsimp only at hrest
        cases ht1 : f1 ρ' with
        | none => rw [ht1] at hrest; cases hrest
        | some rt =>
          rw [ht1] at hrest
          have isb : (rt = .d (.b true)) ∨ (rt = .d (.b false)) := by
            split at hrest
            · rename_i e; exact .inl (Option.some.inj e)
            · rename_i e; exact .inr (Option.some.inj e)
            · cases hrest
          refine ht H0 F2 H2 σ2 ρ' rt _ R3 ht1 (by rcases isb with rfl | rfl <;> exact .inl ⟨_, rfl⟩) (fun b hb F3 H3 g3 => ?_) (fun c e => by rcases isb with rfl | rfl <;> cases e)
          rcases isb with rfl | rfl
          · cases hb
            refine iteT ?_
            dsimp only at hrest
            have fin : ∀ (y : PV) (v : V) (F4 H4 : Hp), Gr F3 H3 F4 H4 → Dat K F4 v y → lcGoX tg f1 f2 (wipeS ρ vs) (xs.drop (i + 1)) (acc ++ [y]) = some z →
                ∃ acc', H4 L = some (.lst acc') ∧ acc'.length < sizeLine ∧ P (i + 1) (upd H4 L (.lst (acc' ++ [v]))) := fun y v F4 H4 g4 hd4 hr4 => by
              have g24 := g2.trans (g3.trans g4)
              have hF4 : F4 L = none := noL (g3.trans g4)
              have grA := gr.trans g24
              refine ⟨as, g24.h _ _ hHL, ?_, F4, acc ++ [y], as ++ [v], ⟨grA.f, ?_, ?_, grA.o⟩, hF4, upd_same, (hds.mono g24.f).snoc hd4, by simp; omega, hr4⟩
              · rw [hds.length, big_eq]; omega
              · intro a o e
                rw [upd_ne (ne_of_none e hL)]
                exact grA.h a o e
              · intro a o e
                rw [upd_ne (ne_of_none e hF4)]
                exact grA.s a o e
            cases hf2 : f2 ρ' with
            | none => rw [hf2] at hrest; cases hrest
            | some r =>
              rw [hf2] at hrest
              refine hf H0 F3 H3 σ2 ρ' r _ (R3.up g3) hf2 (fun v F4 H4 g4 ok => ?_) (fun c e F4 H4 g4 => ?_)
              · cases r with
                | e c => exact ok.elim
                | d y => exact fin y v F4 H4 g4 ok hrest
                | m ys => cases hrest
                | f ys =>
                  obtain ⟨F5, g5, hd5⟩ := ok.frz g4 (.inr ⟨ys, rfl, rfl⟩)
                  exact fin _ v F5 H4 g5 hd5 hrest
              · subst e
                have hze : z = .e c := (Option.some.inj hrest).symm
                exact hσ _ _ _ _ _ (he c hze F4 H4 (g1.trans (gr.trans (g2.trans (g3.trans g4)))))
          · cases hb
            refine iteF ?_
            have g23 := g2.trans g3
            exact ⟨F3, acc, as, gr.trans g23, noL g3, g23.h _ _ hHL, hds.mono g23.f, by omega, hrest⟩
  · rw [if_neg hl] at e1
    cases e1
end
section
variable {X : Cx} {K : PySem.W.Frag} {CA : EvC} {W : WX} {te : TE} {tt : TT} {fa f : CF} {wi : TI} {it : CI} {tg iter elt : Expr} {ifs : List Expr} {scope : Scope} {g : TG} {tgf : CT} {is : List Nat} {pos : Pos}
/-- a block that takes no name from outside (a comprehension in a comprehension) -/
theorem blkOk_nf {N : List Str} {sc scope : Scope} {own : List (Str × Nat)} (h : (blkC N scope scope own && scope.names.all fun y => !(y.2 == NameKind.free)) = true) : BlkOk N sc scope own := by
  obtain ⟨h1, h2⟩ := Bool.and_eq_true_iff.mp h
  have o := blkOk_by h1
  refine ⟨o.kind, o.uniq, o.ix, fun y hy e => ?_, o.own⟩
  have z := List.all_eq_true.mp h2 y hy
  rw [e] at z
  cases z
/-- name = [.. for ..], an exception of the element passed on -/
theorem s_setLcX (i : Nat) (own : List (Str × Nat)) {vs : List Nat} {y : Str} {py spos : Pos} (hs0 : X.stack = X.env :: X.outer) (hf : X.env.frame = some X.env.locals) (tk : Takes X W) (hσ : ∀ (c : Value) (d : Option Addr) (σ σ' : L2.St) (H : Hp), W c d σ H → W c d σ' H)
    (hc : X.calm = true) (hN : X.N.Nodup) (hi : PIX X K CA W tg iter wi it) (ok : BlkOk X.N X.env.scope scope own) (hvs : own.map (·.2) = vs)
    (hg : ∀ (sb : Shared) (Hb : Hp) (C : Addr) (cl : List (Str × Addr)) (fp : List Addr), PGX (X.blk sb Hb scope (compEnvC scope cl C X.env) fp) K tg g tgf is) (ht : ∀ (sb : Shared) (Hb : Hp) (C : Addr) (cl : List (Str × Addr)) (fp : List Addr), PTsX (X.blk sb Hb scope (compEnvC scope cl C X.env) fp) K CA W0 ifs tt fa)
    (he : ∀ (sb : Shared) (Hb : Hp) (C : Addr) (cl : List (Str × Addr)) (fp : List Addr) (xe : Value → Shared → Prop), TakesF (blx X sb Hb scope (compEnvC scope cl C X.env) fp xe) W → PX (blx X sb Hb scope (compEnvC scope cl C X.env) fp xe) K CA W elt te f)
    (hfree : ∀ z ∈ scope.names, z.2 ≠ .free := by decide +kernel) (hy : X.N[i]? = some y := by rfl) (hyl : X.env.scope.names.lookup y = some .local := by rfl) (hsw : swapsWith (.ListComp elt [⟨tg, iter, ifs, 0⟩] scope pos) (some (.Name y py)) spos.line X.env = pure true := by exact sw_true rfl rfl rfl (by decide +kernel))
    (hv : is.all (fun i => vs.contains i) = true := by decide) (hs : ∀ x, foldedSetIterable iter X.env x = pure x := by intro _; rfl) :
    PSX X K CA W (.Assign [.Name y py] (.ListComp elt [⟨tg, iter, ifs, 0⟩] scope pos) spos) (tAsg (tLc wi g tt te vs) (gName i)) (cAsg i (cLcX vs it tgf fa f)) := by
  subst hvs
  refine ⟨ps_setLcX hs0 hf tk hσ hfree hc hN hy hyl hsw hi.pi ok (fun s H C cl fp => (hg s H C cl fp).pg) (fun s H C cl fp => (ht s H C cl fp).pt) (fun s H C cl fp xe t => (he s H C cl fp xe t).pe) hs, ds_asg ?_⟩
  refine de_lcX hσ hi.di (hg X.s_0 X.H_0 0 [] []).dg (ht X.s_0 X.H_0 0 [] []).dt (he X.s_0 X.H_0 0 [] [] (fun _ _ => True) fun _ _ _ => trivial).de fun k hk => ?_
  have := List.all_eq_true.mp hv k hk
  simpa using this
end
end DD
/-! what the laws draw of a script -/
namespace DD
open PySem PySem.Spec L2
def b_q_cell_at : CS := (cSeq (cIf (c2 gLt (cV 1) (c1 gLen (cV 0)))
    (cRet (c2 gIdx (cV 0) (cV 1)))
    cNext)
    (cSeq (cIf (c2 gEq (cV 0) (cLst []))
    (cRet (cK (.i 0)))
    cNext)
    (cRet (c2 gAdd (c2 gMul (c2 gIdx (cV 0) (c2 gMod (cV 1) (c1 gLen (cV 0)))) (cK (.i 31))) (cV 1)))))
def q_cell_at : List PV → Option ER := fnD 2 2 b_q_cell_at
def b_q_mixed : CS := (cSeq (cAsg 3 (c2 gMod (c2 gMul (c2 gAdd (c2 gAdd (cCall q_cell_at [(cV 0), (cV 1)]) (c2 gMul (cK (.i 7919)) (cV 1))) (cK (.i 1))) (cK (.i 48271))) (cK (.i 2147483647))))
    (cRet (c2 gMod (c2 gMod (c2 gAdd (c2 gAdd (c2 gMul (cV 3) (cV 3)) (c2 gMul (cK (.i 7)) (cV 3))) (cV 1)) (cK (.i 2147483629))) (cV 2))))
def q_mixed : List PV → Option ER := fnD 3 4 b_q_mixed
def b1_q_text : CS := (cSeq (cAsg 7 (c2 gMod (c2 gMul (c2 gAdd (c2 gAdd (cV 4) (c2 gMul (c2 gMul (cK (.i 7919)) (cV 6)) (cV 6))) (c2 gMul (cK (.i 104729)) (cV 6))) (cK (.i 48271))) (cK (.i 2147483647))))
    (cAsg 5 (c2 gAdd (cV 5) (c2 gIdx (cV 3) (c2 gMod (c2 gDiv (c2 gMod (c2 gMul (cV 7) (c2 gAdd (cV 7) (cK (.i 3)))) (cK (.i 2147483629))) (cK (.i 7))) (c1 gLen (cV 3)))))))
def b_q_text : CS := (cSeq (cAsg 3 (c2 gIdx (cLst [(cK (.s [97])), (cK (.s [97, 98])), (cK (.s [97, 98])), (cK (.s [97, 98, 99])), (cK (.s [32, 126, 33, 38, 98, 122, 65, 90, 48, 57]))]) (cCall q_mixed [(cV 0), (cV 1), (cK (.i 5))])))
    (cSeq (cAsg 4 (cCall q_mixed [(cV 0), (c2 gAdd (cV 1) (cK (.i 1))), (c2 gPow (cK (.i 10)) (cK (.i 9)))]))
    (cSeq (cAsg 5 (cK (.s [])))
    (cSeq (cFor (iR1 (cCall q_mixed [(cV 0), (c2 gAdd (cV 1) (cK (.i 2))), (c2 gAdd (cV 2) (cK (.i 1)))])) (tgN 6) b1_q_text)
    (cRetV 5)))))
def q_text : List PV → Option ER := fnD 3 8 b_q_text
def b_q_key : CS := (cSeq (cAsg 2 (c2 gIdx (cLst [(cK (.i 1)), (cK (.i 2)), (cK (.i 7)), (cK (.i 97)), (cK (.i 997)), (cK (.i 999))]) (cCall q_mixed [(cV 0), (cV 1), (cK (.i 6))])))
    (cSeq (cAsg 3 (c2 gIdx (cLst [(cK (.i 1)), (cK (.i 2)), (cK (.i 3)), (cK (.i 31)), (cK (.i 256)), (cK (.i 999))]) (cCall q_mixed [(cV 0), (c2 gAdd (cV 1) (cK (.i 1))), (cK (.i 6))])))
    (cRet (cTup [(cV 2), (cV 3), (c2 gIdx (cLst [(cK (.i 1)), (cK (.i 2)), (cK (.i 5)), (cK (.i 101)), (cK (.i 9973)), (cK (.i 99999))]) (cCall q_mixed [(cV 0), (c2 gAdd (cV 1) (cK (.i 2))), (cK (.i 6))]))]))))
def q_key : List PV → Option ER := fnD 2 4 b_q_key
def cellAt (ns : List Int) (k : Int) : Int := if k < ns.length then ns.getD k.toNat 0 else if ns = [] then 0 else (ns.getD (k % ns.length).toNat 0) * 31 + k
theorem q_cell_at_eq (ns : List Int) (k : Int) (hk : 0 ≤ k) : q_cell_at [.z ns, .i k] = some (.d (.i (cellAt ns k))) := by
  unfold q_cell_at
  rw [fnD2]
  simp [b_q_cell_at]
  unfold cellAt
  by_cases h : k < ns.length
  · simp [h, atI_nn hk]
    rw [List.getElem?_eq_getElem (by omega)]
    simp
  · simp [h]
    by_cases hn : ns = []
    · simp [hn]
    · have he : ns.isEmpty = false := by simpa using hn
      have hl : 0 < ns.length := List.length_pos_iff.mpr hn
      have hl' : (0 : Int) < ns.length := by omega
      have h1 := Int.emod_nonneg k (b := (ns.length : Int)) (by omega)
      have h2 := Int.emod_lt_of_pos k hl'
      simp [hn, he, hl, atI_nn h1]
      rw [List.getElem?_eq_getElem (by omega)]
      simp [gMul_r]
def drawn (ns : List Int) (k : Int) : Int := (cellAt ns k + 7919 * k + 1) * 48271 % 2147483647
def mixed (ns : List Int) (k many : Int) : Int := (drawn ns k * drawn ns k + 7 * drawn ns k + k) % 2147483629 % many
theorem mixed_nn {ns : List Int} {k many : Int} (hm : 0 < many) : 0 ≤ mixed ns k many ∧ mixed ns k many < many :=
  ⟨Int.emod_nonneg _ (by omega), Int.emod_lt_of_pos _ hm⟩
theorem q_mixed_eq (ns : List Int) {k many : Int} (hk : 0 ≤ k) (hm : 0 < many) : q_mixed [.z ns, .i k, .i many] = some (.d (.i (mixed ns k many))) := by
  unfold q_mixed
  rw [fnD3]
  have h0 : 0 ≤ drawn ns k := Int.emod_nonneg _ (by omega)
  have h1 : drawn ns k < 2147483647 := Int.emod_lt_of_pos _ (by omega)
  have e : (cellAt ns k + 7919 * k + 1) * 48271 % 2147483647 = drawn ns k := rfl
  simp [b_q_mixed, q_cell_at_eq ns k hk, gMul_l, gMul_r, e]
  rw [gMul_l (by omega)]
  simp [hm]
  rfl
/-! ### items of written lists -/
theorem idx_i {l : List Int} {i : Int} (h0 : 0 ≤ i) (h1 : i < l.length) : gIdx (.l (l.map .i)) (.i i) = some (.d (.i (l.getD i.toNat 0))) := by
  rw [gIdx_l, atI_nn h0, List.getElem?_map, List.getElem?_eq_getElem (by omega)]
  simp [List.getD_eq_getElem?_getD, List.getElem?_eq_getElem (show i.toNat < l.length by omega)]
theorem idx_s {l : List (List Nat)} {i : Int} (h0 : 0 ≤ i) (h1 : i < l.length) : gIdx (.l (l.map .s)) (.i i) = some (.d (.s (l.getD i.toNat []))) := by
  rw [gIdx_l, atI_nn h0, List.getElem?_map, List.getElem?_eq_getElem (by omega)]
  simp [List.getD_eq_getElem?_getD, List.getElem?_eq_getElem (show i.toNat < l.length by omega)]
theorem idx6 {a b c d e f i : Int} (h0 : 0 ≤ i) (h1 : i < 6) : gIdx (.l [.i a, .i b, .i c, .i d, .i e, .i f]) (.i i) = some (.d (.i ([a, b, c, d, e, f].getD i.toNat 0))) := idx_i (l := [a, b, c, d, e, f]) h0 (by simpa using h1)
theorem idx5 {a b c d e : List Nat} {i : Int} (h0 : 0 ≤ i) (h1 : i < 5) : gIdx (.l [.s a, .s b, .s c, .s d, .s e]) (.i i) = some (.d (.s ([a, b, c, d, e].getD i.toNat []))) := idx_s (l := [a, b, c, d, e]) h0 (by simpa using h1)
theorem idx_c {cs : List Nat} {i : Int} (h0 : 0 ≤ i) (h1 : i < cs.length) (hb : cs.length ≤ big) : gIdx (.s cs) (.i i) = some (.d (.s [cs.getD i.toNat 0])) := by
  rw [gIdx_s, if_pos hb, atI_nn h0, List.getElem?_eq_getElem (by omega)]
  simp [List.getD_eq_getElem?_getD, List.getElem?_eq_getElem (show i.toNat < cs.length by omega)]
/-! ### texts -/
def signs (i : Int) : List Nat := [[97], [97, 98], [97, 98], [97, 98, 99], [32, 126, 33, 38, 98, 122, 65, 90, 48, 57]].getD i.toNat []
theorem signs_len {i : Int} (h0 : 0 ≤ i) (h1 : i < 5) : 1 ≤ (signs i).length ∧ (signs i).length ≤ 10 := by
  have : i = 0 ∨ i = 1 ∨ i = 2 ∨ i = 3 ∨ i = 4 := by omega
  rcases this with h | h | h | h | h <;> subst h <;> decide
/-- a sign of a text -/
def isSign (c : Nat) : Bool := decide (32 ≤ c) && decide (c ≤ 126) && decide (c ≠ 37)
theorem signs_ok {i : Int} (h0 : 0 ≤ i) (h1 : i < 5) : (signs i).all isSign = true := by
  have : i = 0 ∨ i = 1 ∨ i = 2 ∨ i = 3 ∨ i = 4 := by omega
  rcases this with h | h | h | h | h <;> subst h <;> decide
theorem idxT {i : Int} (h0 : 0 ≤ i) (h1 : i < 5) : gIdx (.l [.s [97], .s [97, 98], .s [97, 98], .s [97, 98, 99], .s [32, 126, 33, 38, 98, 122, 65, 90, 48, 57]]) (.i i) = some (.d (.s (signs i))) := idx5 h0 h1
def drawT (seed k : Int) : Int := (seed + 7919 * k * k + 104729 * k) * 48271 % 2147483647
def signAt (ns : List Int) (at_ : Int) (k : Nat) : Nat :=
  (signs (mixed ns at_ 5)).getD (drawT (mixed ns (at_ + 1) 1000000000) k * (drawT (mixed ns (at_ + 1) 1000000000) k + 3) % 2147483629 / 7 % (signs (mixed ns at_ 5)).length).toNat 0
def text (ns : List Int) (at_ most : Int) : List Nat := (List.range (mixed ns (at_ + 2) (most + 1)).toNat).map (signAt ns at_)
theorem text_len {ns : List Int} {at_ most : Int} (hm : 0 ≤ most) : (text ns at_ most).length ≤ most.toNat := by
  have := mixed_nn (ns := ns) (k := at_ + 2) (many := most + 1) (by omega)
  unfold text
  simp
  omega
theorem text_ok {ns : List Int} {at_ most : Int} : (text ns at_ most).all isSign = true := by
  unfold text
  rw [List.all_map, List.all_eq_true]
  intro k _
  have h5 := mixed_nn (ns := ns) (k := at_) (many := 5) (by omega)
  have hl := signs_len h5.1 h5.2
  have ho := List.all_eq_true.mp (signs_ok h5.1 h5.2)
  show isSign (signAt ns at_ k) = true
  unfold signAt
  have hlt : (drawT (mixed ns (at_ + 1) 1000000000) k * (drawT (mixed ns (at_ + 1) 1000000000) k + 3) % 2147483629 / 7 % (signs (mixed ns at_ 5)).length).toNat < (signs (mixed ns at_ 5)).length := by
    have := Int.emod_nonneg (drawT (mixed ns (at_ + 1) 1000000000) k * (drawT (mixed ns (at_ + 1) 1000000000) k + 3) % 2147483629 / 7) (b := ((signs (mixed ns at_ 5)).length : Int)) (by omega)
    have := Int.emod_lt_of_pos (drawT (mixed ns (at_ + 1) 1000000000) k * (drawT (mixed ns (at_ + 1) 1000000000) k + 3) % 2147483629 / 7) (show (0 : Int) < ((signs (mixed ns at_ 5)).length : Int) by omega)
    omega
  rw [List.getD_eq_getElem?_getD, List.getElem?_eq_getElem hlt]
  exact ho _ (List.getElem_mem hlt)
theorem pow_10_9 : gPow (.i 10) (.i 9) = some (.d (.i 1000000000)) := by
  rw [gPow_i, if_pos (by unfold CPow; decide)]
  rfl
theorem text_turn {s0 s1 s2 b : Sl1} {sg cs : List Nat} {seed k : Int} (hk : 0 ≤ k ∧ k < 2000) (hs : 0 < sg.length ∧ sg.length ≤ 10) (hc : cs.length ≤ 2000) :
    b1_q_text [s0, s1, s2, .d (.s sg), .d (.i seed), .d (.s cs), .d (.i k), b] =
      some (.nx [s0, s1, s2, .d (.s sg), .d (.i seed), .d (.s (cs ++ [sg.getD (drawT seed k * (drawT seed k + 3) % 2147483629 / 7 % sg.length).toNat 0])), .d (.i k), .d (.i (drawT seed k))]) := by
  have hd0 : 0 ≤ drawT seed k := Int.emod_nonneg _ (by omega)
  have hd1 : drawT seed k < 2147483647 := Int.emod_lt_of_pos _ (by omega)
  have ed : (seed + 7919 * k * k + 104729 * k) * 48271 % 2147483647 = drawT seed k := by rw [drawT]
  have hi0 := Int.emod_nonneg (drawT seed k * (drawT seed k + 3) % 2147483629 / 7) (b := (sg.length : Int)) (by omega)
  have hi1 := Int.emod_lt_of_pos (drawT seed k * (drawT seed k + 3) % 2147483629 / 7) (show (0 : Int) < sg.length by omega)
  generalize hd : drawT seed k = d at *
  simp [-gIdx_s, b1_q_text, gMul_l, gMul_r, gMul_r (n := 7919 * k) (m := k) (by omega), gMul_l (n := d) (m := d + 3) (by omega), ed, hs.1, show sg.length ≤ big by unfold big; omega, idx_c hi0 hi1 (by unfold big; omega), show cs.length + 1 ≤ big by unfold big; omega]
theorem q_text_eq (ns : List Int) {at_ most : Int} (ha : 0 ≤ at_) (hm : 0 ≤ most) (hm2 : most ≤ 1000) : q_text [.z ns, .i at_, .i most] = some (.d (.s (text ns at_ most))) := by
  unfold q_text
  rw [fnD3]
  have h5 := mixed_nn (ns := ns) (k := at_) (many := 5) (by omega)
  have hn := mixed_nn (ns := ns) (k := at_ + 2) (many := most + 1) (by omega)
  have hl := signs_len h5.1 h5.2
  simp [b_q_text, q_mixed_eq ns ha (show (0 : Int) < 5 by decide), q_mixed_eq ns (show 0 ≤ at_ + 1 by omega) (show (0 : Int) < 1000000000 by decide), q_mixed_eq ns (show 0 ≤ at_ + 2 by omega) (show (0 : Int) < most + 1 by omega),
    pow_10_9, idxT h5.1 h5.2, big, show (mixed ns (at_ + 2) (most + 1)).natAbs < lim by unfold lim; omega]
  have key := forGo_inv (tg := tgN 6) (s := b1_q_text) (m := fun k : Nat => PV.i (0 + (k : Nat))) (L := List.range (mixed ns (at_ + 2) (most + 1)).toNat)
    (ρ := [.d (.z ns), .d (.i at_), .d (.i most), .d (.s (signs (mixed ns at_ 5))), .d (.i (mixed ns (at_ + 1) 1000000000)), .d (.s []), .u, .u])
    (S := fun pre ρ => ∃ a b, ρ = [.d (.z ns), .d (.i at_), .d (.i most), .d (.s (signs (mixed ns at_ 5))), .d (.i (mixed ns (at_ + 1) 1000000000)), .d (.s (pre.map (signAt ns at_))), a, b])
    ⟨.u, .u, rfl⟩ (by
    rintro pre k post hL ρ1 ⟨a, b, rfl⟩
    have hk : pre.length + 1 ≤ 1001 := by
      have := congrArg List.length hL
      simp at this
      omega
    have hkk : k < 1001 := by
      have : k ∈ List.range (mixed ns (at_ + 2) (most + 1)).toNat := by rw [hL]; simp
      have := List.mem_range.mp this
      omega
    simp
    rw [text_turn (by omega) (by omega) (by simp; omega)]
    simp [signAt])
  obtain ⟨ρ', e, a, b, rfl⟩ := key
  rw [upTo_map, e]
  simp [text]
/-! ### keys -/
def key0 (ns : List Int) (at_ : Int) : Int := [1, 2, 7, 97, 997, 999].getD (mixed ns at_ 6).toNat 0
def key1 (ns : List Int) (at_ : Int) : Int := [1, 2, 3, 31, 256, 999].getD (mixed ns (at_ + 1) 6).toNat 0
def key2 (ns : List Int) (at_ : Int) : Int := [1, 2, 5, 101, 9973, 99999].getD (mixed ns (at_ + 2) 6).toNat 0
theorem pick6 {a b c d e f : Int} {m : Int} (h0 : 0 ≤ m) (h1 : m < 6) {P : Int → Prop} (ha : P a) (hb : P b) (hc : P c) (hd : P d) (he : P e) (hf : P f) : P ([a, b, c, d, e, f].getD m.toNat 0) := by
  have : m = 0 ∨ m = 1 ∨ m = 2 ∨ m = 3 ∨ m = 4 ∨ m = 5 := by omega
  rcases this with h | h | h | h | h | h <;> subst h <;> assumption
theorem key0_ok (ns : List Int) (at_ : Int) : 1 ≤ key0 ns at_ ∧ key0 ns at_ ≤ 999 := by
  have h := mixed_nn (ns := ns) (k := at_) (many := 6) (by omega)
  exact pick6 (P := fun x => 1 ≤ x ∧ x ≤ 999) h.1 h.2 (by decide) (by decide) (by decide) (by decide) (by decide) (by decide)
theorem key1_ok (ns : List Int) (at_ : Int) : 1 ≤ key1 ns at_ ∧ key1 ns at_ ≤ 999 := by
  have h := mixed_nn (ns := ns) (k := at_ + 1) (many := 6) (by omega)
  exact pick6 (P := fun x => 1 ≤ x ∧ x ≤ 999) h.1 h.2 (by decide) (by decide) (by decide) (by decide) (by decide) (by decide)
theorem key2_ok (ns : List Int) (at_ : Int) : 1 ≤ key2 ns at_ ∧ key2 ns at_ ≤ 99999 := by
  have h := mixed_nn (ns := ns) (k := at_ + 2) (many := 6) (by omega)
  exact pick6 (P := fun x => 1 ≤ x ∧ x ≤ 99999) h.1 h.2 (by decide) (by decide) (by decide) (by decide) (by decide) (by decide)
theorem q_key_eq (ns : List Int) {at_ : Int} (ha : 0 ≤ at_) : q_key [.z ns, .i at_] = some (.d (.t [.i (key0 ns at_), .i (key1 ns at_), .i (key2 ns at_)])) := by
  unfold q_key
  rw [fnD2]
  have h1 := mixed_nn (ns := ns) (k := at_) (many := 6) (by omega)
  have h2 := mixed_nn (ns := ns) (k := at_ + 1) (many := 6) (by omega)
  have h3 := mixed_nn (ns := ns) (k := at_ + 2) (many := 6) (by omega)
  simp only [key0, key1, key2]
  simp [-gIdx_l, -List.getD_eq_getElem?_getD, b_q_key, q_mixed_eq ns ha (show (0 : Int) < 6 by decide), q_mixed_eq ns (show 0 ≤ at_ + 1 by omega) (show (0 : Int) < 6 by decide), q_mixed_eq ns (show 0 ≤ at_ + 2 by omega) (show (0 : Int) < 6 by decide),
    idx6 h1.1 h1.2, idx6 h2.1 h2.2, idx6 h3.1 h3.2, big]
end DD
/-! texts, keys and sums -/
namespace DD
open PySem PySem.Spec L2
def b_p_is_whole : CS := (cRet (cAnd (c1 (gIs "int") (cV 0)) (cNot (c1 (gIs "bool") (cV 0)))))
def p_is_whole : List PV → Option ER := fnD 1 1 b_p_is_whole
def b_p_between : CS := (cRet (cAnd (cCall p_is_whole [(cV 0)]) (cChain gLe gLe (cV 1) (cV 0) (cV 2))))
def p_between : List PV → Option ER := fnD 3 3 b_p_between
def b_p_worth : CS := (cRet (c1 gOrd (cV 0)))
def p_worth : List PV → Option ER := fnD 1 1 b_p_worth
def b1_p_is_text : CF := (cAnd (cChain gLe gLe (cK (.i 32)) (cCall p_worth [(cV 3)]) (cK (.i 126))) (c2 gNe (cCall p_worth [(cV 3)]) (cK (.i 37))))
def b_p_is_text : CS := (cSeq (cIf (cOr (cNot (c1 (gIs "str") (cV 0))) (cNot (cChain gLe gLe (cV 1) (c1 gLen (cV 0)) (cV 2))))
    (cRet (cK (.b false)))
    cNext)
    (cRet (c1 gAll (cLc [3] (iS (cV 0)) (tgN 3) cYes b1_p_is_text))))
def p_is_text : List PV → Option ER := fnD 3 4 b_p_is_text
def b_p_need_text : CS := (cIf (cNot (cCall p_is_text [(cV 0), (cK (.i 0)), (cK (.i 2000))]))
    (cRaise 1)
    cNext)
def p_need_text : List PV → Option ER := fnD 1 1 b_p_need_text
def b_p_need_key : CS := (cSeq (cIf (cOr (cNot (c1 (gIs "tuple") (cV 0))) (c2 gNe (c1 gLen (cV 0)) (cK (.i 3))))
    (cRaise 2)
    cNext)
    (cIf (cOr (cNot (cCall p_between [(c2 gIdx (cV 0) (cK (.i 0))), (cK (.i 1)), (cK (.i 999))])) (cOr (cNot (cCall p_between [(c2 gIdx (cV 0) (cK (.i 1))), (cK (.i 1)), (cK (.i 999))])) (cNot (cCall p_between [(c2 gIdx (cV 0) (cK (.i 2))), (cK (.i 1)), (cK (.i 99999))]))))
    (cRaise 2)
    cNext))
def p_need_key : List PV → Option ER := fnD 1 1 b_p_need_key
def b1_p_first_of : CS := (cSeq (cAsg 2 (c2 gAdd (cV 2) (cCall p_worth [(cV 4)])))
    (cAsg 3 (c2 gAdd (cV 3) (cV 2))))
def b_p_first_of : CS := (cSeq (cAsg 2 (cK (.i 0)))
    (cSeq (cAsg 3 (cK (.i 0)))
    (cSeq (cFor (iS (cV 1)) (tgN 4) b1_p_first_of)
    (cRet (cTup [(c2 gMod (cV 2) (c2 gIdx (cV 0) (cK (.i 0)))), (c2 gMod (cV 3) (c2 gIdx (cV 0) (cK (.i 0))))])))))
def p_first_of : List PV → Option ER := fnD 2 5 b_p_first_of
def b_p_first_sum : CS := (cSeq (cDrop (cCall p_need_key [(cV 0)]))
    (cSeq (cDrop (cCall p_need_text [(cV 1)]))
    (cRet (cCall p_first_of [(cV 0), (cV 1)]))))
def p_first_sum : List PV → Option ER := fnD 2 2 b_p_first_sum
def b1_p_number_of : CS := (cAsg 3 (c2 gMod (c2 gAdd (c2 gMul (cV 3) (cV 1)) (cCall p_worth [(cV 4)])) (cV 2)))
def b_p_number_of : CS := (cSeq (cAsg 3 (cK (.i 0)))
    (cSeq (cFor (iS (cV 0)) (tgN 4) b1_p_number_of)
    (cRetV 3)))
def p_number_of : List PV → Option ER := fnD 3 5 b_p_number_of
def b_p_second_sum : CS := (cSeq (cDrop (cCall p_need_key [(cV 0)]))
    (cSeq (cDrop (cCall p_need_text [(cV 1)]))
    (cRet (cCall p_number_of [(cV 1), (c2 gIdx (cV 0) (cK (.i 1))), (c2 gIdx (cV 0) (cK (.i 2)))]))))
def p_second_sum : List PV → Option ER := fnD 2 2 b_p_second_sum
def b_p_whole_of : CS := (cRet (cTup [(c1 gLen (cV 1)), (cCall p_number_of [(cV 1), (c2 gAdd (c2 gIdx (cV 0) (cK (.i 1))) (cK (.i 1))), (c2 gIdx (cV 0) (cK (.i 2)))])]))
def p_whole_of : List PV → Option ER := fnD 2 2 b_p_whole_of
def b_p_whole_sum : CS := (cSeq (cDrop (cCall p_need_key [(cV 0)]))
    (cSeq (cDrop (cCall p_need_text [(cV 1)]))
    (cRet (cCall p_whole_of [(cV 0), (cV 1)]))))
def p_whole_sum : List PV → Option ER := fnD 2 2 b_p_whole_sum
def b_p_next_sum : CS := (cSeq (cAsg 5 (c2 gAdd (c2 gSub (c2 gIdx (cV 1) (cK (.i 0))) (cCall p_worth [(cV 3)])) (cCall p_worth [(cV 4)])))
    (cSeq (cAsg 6 (c2 gAdd (c2 gSub (c2 gIdx (cV 1) (cK (.i 1))) (c2 gMul (cV 2) (cCall p_worth [(cV 3)]))) (cV 5)))
    (cRet (cTup [(c2 gMod (cV 5) (c2 gIdx (cV 0) (cK (.i 0)))), (c2 gMod (cV 6) (c2 gIdx (cV 0) (cK (.i 0))))]))))
def p_next_sum : List PV → Option ER := fnD 5 7 b_p_next_sum
def b_p_rolled : CS := (cSeq (cDrop (cCall p_need_key [(cV 0)]))
    (cRet (cCall p_next_sum [(cV 0), (cV 1), (cV 2), (cV 3), (cV 4)])))
def p_rolled : List PV → Option ER := fnD 5 5 b_p_rolled
def b1_q_first : CF := (c1 gOrd (cV 4))
def b2_q_first : CF := (c2 gMul (c2 gSub (c1 gLen (cV 1)) (cV 5)) (c1 gOrd (c2 gIdx (cV 1) (cV 5))))
def b_q_first : CS := (cSeq (cAsg 2 (c1 gSum (cLc [4] (iS (cV 1)) (tgN 4) cYes b1_q_first)))
    (cSeq (cAsg 3 (c1 gSum (cLc [5] (iR1 (c1 gLen (cV 1))) (tgN 5) cYes b2_q_first)))
    (cRet (cTup [(c2 gMod (cV 2) (c2 gIdx (cV 0) (cK (.i 0)))), (c2 gMod (cV 3) (c2 gIdx (cV 0) (cK (.i 0))))]))))
def q_first : List PV → Option ER := fnD 2 6 b_q_first
def b1_q_second : CS := (cAsg 3 (c2 gAdd (c2 gMul (cV 3) (cV 1)) (c1 gOrd (cV 4))))
def b_q_second : CS := (cSeq (cAsg 3 (cK (.i 0)))
    (cSeq (cFor (iS (cV 0)) (tgN 4) b1_q_second)
    (cRet (c2 gMod (cV 3) (cV 2)))))
def q_second : List PV → Option ER := fnD 3 5 b_q_second
def b_q_card : CS := (cRet (cTup [(cCall q_first [(cV 0), (cV 1)]), (cCall q_second [(cV 1), (c2 gIdx (cV 0) (cK (.i 1))), (c2 gIdx (cV 0) (cK (.i 2)))])]))
def q_card : List PV → Option ER := fnD 2 2 b_q_card
def b_q_whole_sum : CS := (cRet (cTup [(c1 gLen (cV 1)), (cCall q_second [(cV 1), (c2 gAdd (c2 gIdx (cV 0) (cK (.i 1))) (cK (.i 1))), (c2 gIdx (cV 0) (cK (.i 2)))])]))
def q_whole_sum : List PV → Option ER := fnD 2 2 b_q_whole_sum
def b_q_whole : CS := (cRet (cAnd (c1 (gIs "int") (cV 0)) (cNot (c1 (gIs "bool") (cV 0)))))
def q_whole : List PV → Option ER := fnD 1 1 b_q_whole
theorem intsOf_map' {α : Type} (g : α → Int) (L : List α) : intsOf (L.map fun a => .i (g a)) = some (L.map g) := by
  have := intsOf_map (L.map g)
  rwa [List.map_map] at this
theorem blsOf_map' {α : Type} (g : α → Bool) (L : List α) : blsOf (L.map fun a => .b (g a)) = some (L.map g) := by
  have := blsOf_map (L.map g)
  rwa [List.map_map] at this
theorem all_id {α : Type} (g : α → Bool) (L : List α) : (L.map g).all id = L.all g := by rw [List.all_map]; rfl
@[simp] theorem p_worth_eq (c : Nat) : p_worth [.s [c]] = some (.d (.i c)) := by
  unfold p_worth
  rw [fnD1]
  simp [b_p_worth]
theorem p_is_whole_eq (x : PV) : p_is_whole [x] = some (.d (.b (isI x && !isB x))) := by
  unfold p_is_whole
  rw [fnD1]
  cases x <;> simp [b_p_is_whole, isI, isB]
@[simp] theorem p_is_whole_i (n : Int) : p_is_whole [.i n] = some (.d (.b true)) := p_is_whole_eq _
theorem p_between_eq (x lo hi : Int) : p_between [.i x, .i lo, .i hi] = some (.d (.b (decide (lo ≤ x) && decide (x ≤ hi)))) := by
  unfold p_between
  rw [fnD3]
  simp [b_p_between]
  by_cases h : lo ≤ x <;> simp [h]
theorem p_is_text_eq {cs : List Nat} {a b : Int} (hb : cs.length ≤ big) : p_is_text [.s cs, .i a, .i b] = some (.d (.b (decide (a ≤ cs.length) && decide (cs.length ≤ b) && cs.all isSign))) := by
  unfold p_is_text
  rw [fnD3]
  simp [b_p_is_text, isS, hb]
  by_cases h1 : a ≤ cs.length
  · simp [h1]
    by_cases h2 : (cs.length : Int) ≤ b
    · simp [h2]
      rw [lcGo_map (m := fun c : Nat => PV.s [c]) (w := fun c => PV.b (isSign c))]
      · simp [blsOf_map', all_id, hb]
      · intro c _
        refine ⟨_, rfl, rfl, ?_⟩
        unfold isSign
        simp [b1_p_is_text]
        by_cases g1 : 32 ≤ c
        · by_cases g2 : c ≤ 126
          · simp [g1, g2, show (32 : Int) ≤ c by omega, show (c : Int) ≤ 126 by omega]
            by_cases g3 : c = 37 <;> simp [g3]
            omega
          · simp [g1, g2, show (32 : Int) ≤ c by omega, show ¬ (c : Int) ≤ 126 by omega]
        · simp [g1, show ¬ (32 : Int) ≤ c by omega]
    · simp [h2]
  · simp [h1]
/-- a text of signs -/
def okText (cs : List Nat) : Prop := cs.length ≤ 2000 ∧ cs.all isSign = true
theorem p_need_text_ok {cs : List Nat} (h : okText cs) : p_need_text [.s cs] = some (.d .n) := by
  unfold p_need_text
  rw [fnD1]
  simp [b_p_need_text, p_is_text_eq (show cs.length ≤ big by have := h.1; unfold big; omega), h.2, show (cs.length : Int) ≤ 2000 by have := h.1; omega, show (0 : Int) ≤ cs.length by omega]
/-- a key -/
abbrev keyD (few times many : Int) : PV := .t [.i few, .i times, .i many]
structure OkKey (few times many : Int) : Prop where
  f : 1 ≤ few ∧ few ≤ 999
  t : 1 ≤ times ∧ times ≤ 999
  m : 1 ≤ many ∧ many ≤ 99999
theorem p_need_key_ok {few times many : Int} (h : OkKey few times many) : p_need_key [keyD few times many] = some (.d .n) := by
  unfold p_need_key
  rw [fnD1]
  simp [b_p_need_key, p_between_eq, isU, h.f, h.t, h.m]
/-! ### the first sum -/
def sumC (cs : List Nat) : Int := (cs.map fun (c : Nat) => (c : Int)).sum
def leanC : List Nat → Int
  | [] => 0
  | c :: r => ((r.length : Int) + 1) * c + leanC r
theorem sumC_snoc (cs : List Nat) (c : Nat) : sumC (cs ++ [c]) = sumC cs + c := by simp [sumC]
theorem leanC_snoc : ∀ (cs : List Nat) (c : Nat), leanC (cs ++ [c]) = leanC cs + (sumC cs + c)
  | [], c => by simp [leanC, sumC]
  | a :: cs, c => by
    have ih := leanC_snoc cs c
    simp only [List.cons_append, leanC, ih, List.length_append, List.length_singleton, sumC, List.map_cons, List.sum_cons]
    have : (((cs.length + 1 : Nat) : Int) + 1) * a = ((cs.length : Int) + 1) * a + a := by
      rw [show ((cs.length + 1 : Nat) : Int) + 1 = ((cs.length : Int) + 1) + 1 by omega, Int.add_mul]
      omega
    omega
abbrev firstD (few : Int) (cs : List Nat) : PV := .t [.i (sumC cs % few), .i (leanC cs % few)]
theorem p_first_of_eq {few times many : Int} (h : 0 < few) (cs : List Nat) : p_first_of [keyD few times many, .s cs] = some (.d (firstD few cs)) := by
  unfold p_first_of
  rw [fnD2]
  simp [b_p_first_of]
  have key := forGo_inv (tg := tgN 4) (s := b1_p_first_of) (m := fun c : Nat => PV.s [c]) (L := cs) (ρ := [.d (keyD few times many), .d (.s cs), .d (.i 0), .d (.i 0), .u])
    (S := fun pre ρ => ∃ a, ρ = [.d (keyD few times many), .d (.s cs), .d (.i (sumC pre)), .d (.i (leanC pre)), a])
    ⟨.u, rfl⟩ (by
    rintro pre c post hL ρ1 ⟨a, rfl⟩
    simp [b1_p_first_of, sumC_snoc, leanC_snoc])
  obtain ⟨ρ', e, a, rfl⟩ := key
  rw [e]
  simp [h, big]
/-! ### the second sum -/
def numC (times many : Int) (cs : List Nat) : Int := cs.foldl (fun (m : Int) (c : Nat) => (m * times + (c : Int)) % many) 0
def bigN (times : Int) (cs : List Nat) : Int := cs.foldl (fun (m : Int) (c : Nat) => m * times + (c : Int)) 0
theorem numC_eq (times many : Int) (cs : List Nat) : numC times many cs = bigN times cs % many := by
  have key : ∀ (cs : List Nat) (a b : Int), a = b % many → cs.foldl (fun (m : Int) (c : Nat) => (m * times + (c : Int)) % many) a = (cs.foldl (fun (m : Int) (c : Nat) => m * times + (c : Int)) b) % many := by
    intro cs
    induction cs with
    | nil => intro a b h; exact h
    | cons c r ih =>
      intro a b h
      refine ih _ _ ?_
      rw [h]
      simp [Int.add_emod, Int.mul_emod]
  exact key cs 0 0 (by simp)
theorem p_number_of_eq {times many : Int} (ht : 0 ≤ times ∧ times ≤ 1000) (hm : 0 < many) (cs : List Nat) : p_number_of [.s cs, .i times, .i many] = some (.d (.i (numC times many cs))) := by
  unfold p_number_of
  rw [fnD3]
  simp [b_p_number_of]
  have key := forGo_inv (tg := tgN 4) (s := b1_p_number_of) (m := fun c : Nat => PV.s [c]) (L := cs) (ρ := [.d (.s cs), .d (.i times), .d (.i many), .d (.i 0), .u])
    (S := fun pre ρ => ∃ a, ρ = [.d (.s cs), .d (.i times), .d (.i many), .d (.i (numC times many pre)), a])
    ⟨.u, rfl⟩ (by
    rintro pre c post hL ρ1 ⟨a, rfl⟩
    simp [b1_p_number_of, gMul_r (m := times) (by omega), hm, numC])
  obtain ⟨ρ', e, a, rfl⟩ := key
  rw [e]
  simp
theorem q_second_eq {times many : Int} (ht : 0 ≤ times ∧ times ≤ 1000) (hm : 0 < many) (cs : List Nat) : q_second [.s cs, .i times, .i many] = some (.d (.i (numC times many cs))) := by
  unfold q_second
  rw [fnD3]
  simp [b_q_second]
  have key := forGo_inv (tg := tgN 4) (s := b1_q_second) (m := fun c : Nat => PV.s [c]) (L := cs) (ρ := [.d (.s cs), .d (.i times), .d (.i many), .d (.i 0), .u])
    (S := fun pre ρ => ∃ a, ρ = [.d (.s cs), .d (.i times), .d (.i many), .d (.i (bigN times pre)), a])
    ⟨.u, rfl⟩ (by
    rintro pre c post hL ρ1 ⟨a, rfl⟩
    simp [b1_q_second, gMul_r (m := times) (by omega), bigN])
  obtain ⟨ρ', e, a, rfl⟩ := key
  rw [e]
  simp [hm, numC_eq]
/-! ### the law's own first sum -/
theorem lean_range : ∀ cs : List Nat, ((List.range cs.length).map fun (k : Nat) => ((cs.length : Int) - (k : Int)) * ((cs.getD k 0 : Nat) : Int)).sum = leanC cs
  | [] => by simp [leanC]
  | c :: r => by
    have ih := lean_range r
    rw [List.length_cons, List.range_succ_eq_map, List.map_cons, List.sum_cons, List.map_map]
    have e : ((fun (k : Nat) => (((r.length + 1 : Nat) : Int) - (k : Int)) * (((c :: r).getD k 0 : Nat) : Int)) ∘ Nat.succ) = fun (k : Nat) => ((r.length : Int) - (k : Int)) * ((r.getD k 0 : Nat) : Int) := by
      funext k
      simp only [Function.comp, List.getD_cons_succ]
      congr 1
      simp
      omega
    rw [e, ih]
    simp [leanC]
theorem q_first_eq {few times many : Int} (h : 0 < few) {cs : List Nat} (hl : cs.length ≤ 100000) : q_first [keyD few times many, .s cs] = some (.d (firstD few cs)) := by
  unfold q_first
  rw [fnD2]
  simp [b_q_first, show cs.length ≤ big by unfold big; omega]
  rw [lcGo_map (m := fun c : Nat => PV.s [c]) (w := fun c => PV.i c)]
  · simp [intsOf_map', show cs.length < lim by unfold lim; omega, upTo_map, show cs.length ≤ big by unfold big; omega]
    rw [lcGo_map (m := fun k : Nat => PV.i (k : Int)) (w := fun k : Nat => PV.i (((cs.length : Int) - (k : Int)) * ((cs.getD k 0 : Nat) : Int)))]
    · have := lean_range cs
      simp only [List.getD_eq_getElem?_getD] at this
      simp [intsOf_map', this, h, big, sumC]
    · intro k hk
      have hk := List.mem_range.mp hk
      refine ⟨_, rfl, rfl, ?_⟩
      simp [b2_q_first, show cs.length ≤ big by unfold big; omega, atI_nn (n := (k : Int)) (by omega), hk, gMul_l (n := (cs.length : Int) - k) (by omega)]
  · intro c _
    refine ⟨_, rfl, rfl, ?_⟩
    simp [b1_q_first]
/-! ### cards -/
abbrev cardD (few times many : Int) (cs : List Nat) : PV := .t [firstD few cs, .i (numC times many cs)]
theorem q_card_eq {few times many : Int} (h : OkKey few times many) {cs : List Nat} (hl : cs.length ≤ 100000) : q_card [keyD few times many, .s cs] = some (.d (cardD few times many cs)) := by
  unfold q_card
  rw [fnD2]
  have := h.f; have := h.t; have := h.m
  simp [b_q_card, q_first_eq (few := few) (by omega) hl, q_second_eq (times := times) (many := many) (by omega) (by omega), big]
abbrev wholeD (times many : Int) (cs : List Nat) : PV := .t [.i cs.length, .i (numC (times + 1) many cs)]
theorem q_whole_sum_eq {few times many : Int} (h : OkKey few times many) {cs : List Nat} (hl : cs.length ≤ 100000) : q_whole_sum [keyD few times many, .s cs] = some (.d (wholeD times many cs)) := by
  unfold q_whole_sum
  rw [fnD2]
  have := h.f; have := h.t; have := h.m
  simp [b_q_whole_sum, q_second_eq (times := times + 1) (many := many) (by omega) (by omega), big, show cs.length ≤ 16777216 by omega]
theorem p_whole_of_eq {few times many : Int} (h : OkKey few times many) {cs : List Nat} (hl : cs.length ≤ 100000) : p_whole_of [keyD few times many, .s cs] = some (.d (wholeD times many cs)) := by
  unfold p_whole_of
  rw [fnD2]
  have := h.f; have := h.t; have := h.m
  simp [b_p_whole_of, p_number_of_eq (times := times + 1) (many := many) (by omega) (by omega), big, show cs.length ≤ 16777216 by omega]
theorem p_first_sum_eq {few times many : Int} (h : OkKey few times many) {cs : List Nat} (hc : okText cs) : p_first_sum [keyD few times many, .s cs] = some (.d (firstD few cs)) := by
  unfold p_first_sum
  rw [fnD2]
  have := h.f
  simp [b_p_first_sum, p_need_key_ok h, p_need_text_ok hc, p_first_of_eq (few := few) (by omega)]
theorem p_second_sum_eq {few times many : Int} (h : OkKey few times many) {cs : List Nat} (hc : okText cs) : p_second_sum [keyD few times many, .s cs] = some (.d (.i (numC times many cs))) := by
  unfold p_second_sum
  rw [fnD2]
  have := h.t; have := h.m
  simp [b_p_second_sum, p_need_key_ok h, p_need_text_ok hc, p_number_of_eq (times := times) (many := many) (by omega) (by omega)]
theorem p_whole_sum_eq {few times many : Int} (h : OkKey few times many) {cs : List Nat} (hc : okText cs) : p_whole_sum [keyD few times many, .s cs] = some (.d (wholeD times many cs)) := by
  unfold p_whole_sum
  rw [fnD2]
  simp [b_p_whole_sum, p_need_key_ok h, p_need_text_ok hc, p_whole_of_eq h (show cs.length ≤ 100000 by have := hc.1; omega)]
theorem q_whole_eq (x : PV) : q_whole [x] = some (.d (.b (isI x && !isB x))) := by
  unfold q_whole
  rw [fnD1]
  cases x <;> simp [b_q_whole, isI, isB]
theorem key_ok (ns : List Int) (at_ : Int) : OkKey (key0 ns at_) (key1 ns at_) (key2 ns at_) := ⟨key0_ok ns at_, key1_ok ns at_, key2_ok ns at_⟩
theorem text_okT {ns : List Int} {at_ most : Int} (hm : 0 ≤ most) (hm2 : most ≤ 1000) : okText (text ns at_ most) := ⟨by have := text_len (ns := ns) (at_ := at_) hm; omega, text_ok⟩
end DD
/-! pieces, letters -/
namespace DD
open PySem PySem.Spec L2
def b_p_is_piece : CS := (cSeq (cIf (cOr (cNot (c1 (gIs "tuple") (cV 0))) (c2 gLt (c1 gLen (cV 0)) (cK (.i 2))))
    (cRet (cK (.b false)))
    cNext)
    (cSeq (cIf (c2 gEq (c2 gIdx (cV 0) (cK (.i 0))) (cK (.s [115, 105, 103, 110, 115])))
    (cRet (cAnd (c2 gEq (c1 gLen (cV 0)) (cK (.i 2))) (cCall p_is_text [(c2 gIdx (cV 0) (cK (.i 1))), (cK (.i 1)), (cK (.i 2000))])))
    cNext)
    (cSeq (cIf (cOr (c2 gNe (c2 gIdx (cV 0) (cK (.i 0))) (cK (.s [99, 111, 112, 121]))) (c2 gNe (c1 gLen (cV 0)) (cK (.i 3))))
    (cRet (cK (.b false)))
    cNext)
    (cRet (cAnd (cCall p_is_whole [(c2 gIdx (cV 0) (cK (.i 1)))]) (cAnd (c2 gGe (c2 gIdx (cV 0) (cK (.i 1))) (cK (.i 0))) (cAnd (cCall p_is_whole [(c2 gIdx (cV 0) (cK (.i 2)))]) (c2 gGe (c2 gIdx (cV 0) (cK (.i 2))) (cK (.i 1))))))))))
def p_is_piece : List PV → Option ER := fnD 1 1 b_p_is_piece
def b1_p_need_letter : CF := (cCall p_is_piece [(cV 1)])
def b_p_need_letter : CS := (cIf (cOr (cNot (c1 (gIs "list") (cV 0))) (cOr (c2 gGt (c1 gLen (cV 0)) (cK (.i 2000))) (cNot (c1 gAll (cLc [1] (iL (cV 0)) (tgN 1) cYes b1_p_need_letter)))))
    (cRaise 4)
    cNext)
def p_need_letter : List PV → Option ER := fnD 1 2 b_p_need_letter
def b1_p_made_of : CS := (cIf (c2 gEq (c2 gIdx (cV 3) (cK (.i 0))) (cK (.s [115, 105, 103, 110, 115])))
    (cApp 2 (c2 gIdx (cV 3) (cK (.i 1))))
    (cIf (c2 gGt (c2 gAdd (c2 gIdx (cV 3) (cK (.i 1))) (c2 gIdx (cV 3) (cK (.i 2)))) (c1 gLen (cV 0)))
    (cRaise 5)
    (cApp 2 (cSl (cV 0) (some (c2 gIdx (cV 3) (cK (.i 1)))) (some (c2 gAdd (c2 gIdx (cV 3) (cK (.i 1))) (c2 gIdx (cV 3) (cK (.i 2)))))))))
def b_p_made_of : CS := (cSeq (cAsgM 2 (cLst []))
    (cSeq (cFor (iL (cV 1)) (tgN 3) b1_p_made_of)
    (cFrz 2 (cRet (cM1 gJoin (cK (.s [])) (cV 2))))))
def p_made_of : List PV → Option ER := fnD 2 4 b_p_made_of
def b_p_mended : CS := (cSeq (cDrop (cCall p_need_text [(cV 0)]))
    (cSeq (cDrop (cCall p_need_letter [(cV 1)]))
    (cRet (cCall p_made_of [(cV 0), (cV 1)]))))
def p_mended : List PV → Option ER := fnD 2 2 b_p_mended
def b_p_size_of : CS := (cSeq (cIf (c2 gEq (c2 gIdx (cV 0) (cK (.i 0))) (cK (.s [115, 105, 103, 110, 115])))
    (cRet (c1 gLen (c2 gIdx (cV 0) (cK (.i 1)))))
    cNext)
    (cRet (c2 gIdx (cV 0) (cK (.i 2)))))
def p_size_of : List PV → Option ER := fnD 1 1 b_p_size_of
def b1_p_cost : CF := (c2 gIdx (cLst [(cK (.i 1)), (cCall p_size_of [(cV 1)])]) (c1 gInt (c2 gEq (c2 gIdx (cV 1) (cK (.i 0))) (cK (.s [115, 105, 103, 110, 115])))))
def b_p_cost : CS := (cSeq (cDrop (cCall p_need_letter [(cV 0)]))
    (cRet (c1 gSum (cLc [1] (iL (cV 0)) (tgN 1) cYes b1_p_cost))))
def p_cost : List PV → Option ER := fnD 1 2 b_p_cost
def b_p_put : CS := (cIf (cAnd (c2 gNe (cV 0) (cLst [])) (cChain gEq gEq (c2 gIdx (c2 gIdx (cV 0) (c1 gNeg (cK (.i 1)))) (cK (.i 0))) (c2 gIdx (cV 1) (cK (.i 0))) (cK (.s [115, 105, 103, 110, 115]))))
    (cSto 0 (c1 gNeg (cK (.i 1))) (cTup [(cK (.s [115, 105, 103, 110, 115])), (c2 gAdd (c2 gIdx (c2 gIdx (cV 0) (c1 gNeg (cK (.i 1)))) (cK (.i 1))) (c2 gIdx (cV 1) (cK (.i 1))))]))
    (cIf (cAnd (c2 gNe (cV 0) (cLst [])) (cAnd (c2 gEq (c2 gIdx (c2 gIdx (cV 0) (c1 gNeg (cK (.i 1)))) (cK (.i 0))) (c2 gIdx (cV 1) (cK (.i 0)))) (c2 gEq (c2 gAdd (c2 gIdx (c2 gIdx (cV 0) (c1 gNeg (cK (.i 1)))) (cK (.i 1))) (c2 gIdx (c2 gIdx (cV 0) (c1 gNeg (cK (.i 1)))) (cK (.i 2)))) (c2 gIdx (cV 1) (cK (.i 1))))))
    (cSto 0 (c1 gNeg (cK (.i 1))) (cTup [(cK (.s [99, 111, 112, 121])), (c2 gIdx (c2 gIdx (cV 0) (c1 gNeg (cK (.i 1)))) (cK (.i 1))), (c2 gAdd (c2 gIdx (c2 gIdx (cV 0) (c1 gNeg (cK (.i 1)))) (cK (.i 2))) (c2 gIdx (cV 1) (cK (.i 2))))]))
    (cApp 0 (cV 1))))
def p_put : List PV → PV → Option (List PV) := fnP 2 b_p_put
def b1_p_plain_of : CS := (cPut p_put 1 (cV 2))
def b_p_plain_of : CS := (cSeq (cAsgM 1 (cLst []))
    (cSeq (cFor (iL (cV 0)) (tgN 2) b1_p_plain_of)
    (cRetV 1)))
def p_plain_of : List PV → Option ER := fnD 1 3 b_p_plain_of
def b_p_plain : CS := (cSeq (cDrop (cCall p_need_letter [(cV 0)]))
    (cRet (cCall p_plain_of [(cV 0)])))
def p_plain : List PV → Option ER := fnD 1 1 b_p_plain
inductive Pc where
  | sg (cs : List Nat) | cp (p n : Nat)
  deriving DecidableEq
def pcPV : Pc → PV
  | .sg cs => .t [.s [115, 105, 103, 110, 115], .s cs]
  | .cp p n => .t [.s [99, 111, 112, 121], .i p, .i n]
@[simp] theorem pcPV_sg {cs : List Nat} : pcPV (.sg cs) = .t [.s [115, 105, 103, 110, 115], .s cs] := rfl
@[simp] theorem pcPV_cp {p n : Nat} : pcPV (.cp p n) = .t [.s [99, 111, 112, 121], .i p, .i n] := rfl
abbrev letPV (L : List Pc) : List PV := L.map pcPV
theorem dep_pc (x : Pc) : dep (pcPV x) ≤ 1 := by cases x <;> simp
theorem deps_let (L : List Pc) : deps (letPV L) ≤ 1 := deps_map dep_pc L
def okPc : Pc → Prop
  | .sg cs => 1 ≤ cs.length ∧ okText cs
  | .cp _ n => 1 ≤ n
theorem p_is_piece_ok {x : Pc} (h : okPc x) : p_is_piece [pcPV x] = some (.d (.b true)) := by
  unfold p_is_piece
  rw [fnD1]
  cases x with
  | sg cs =>
    obtain ⟨h1, h2, h3⟩ := h
    have hb : cs.length ≤ big := by unfold big; omega
    simp [b_p_is_piece, isU, p_is_text_eq hb, h3, show (1 : Int) ≤ cs.length by omega, show (cs.length : Int) ≤ 2000 by omega]
  | cp p n =>
    have h1 : 1 ≤ n := h
    simp [b_p_is_piece, isU, show (1 : Int) ≤ n by omega]
theorem p_need_letter_ok {L : List Pc} (hl : L.length ≤ 2000) (h : ∀ x ∈ L, okPc x) : p_need_letter [.l (letPV L)] = some (.d .n) := by
  unfold p_need_letter
  rw [fnD1]
  have hb : L.length ≤ big := by unfold big; omega
  have e : lcGo (tgN 1) cYes b1_p_need_letter [.d (.l (letPV L)), .u] (letPV L) [] = some ([] ++ L.map fun _ => PV.b true) :=
    lcGo_map (m := pcPV) (w := fun _ => PV.b true) (fun x hx => ⟨_, rfl, rfl, by simp [b1_p_need_letter, p_is_piece_ok (h x hx)]⟩) []
  have hall : (L.all fun _ => true) = true := List.all_eq_true.mpr fun _ _ => rfl
  simp only [letPV] at e
  simp [b_p_need_letter, isL, hall, show ¬ (2000 : Int) < L.length by omega, hb, e, blsOf_map' (fun _ => true)]
def size : Pc → Nat
  | .sg cs => cs.length
  | .cp _ n => n
theorem p_size_of_eq {x : Pc} (h : ∀ cs, x = .sg cs → cs.length ≤ big) : p_size_of [pcPV x] = some (.d (.i (size x))) := by
  unfold p_size_of
  rw [fnD1]
  cases x with
  | sg cs => simp [b_p_size_of, h cs rfl, size]
  | cp p n => simp [b_p_size_of, size]
/-! ### what a letter makes -/
def madeP (elder : List Nat) : List Pc → Option (List (List Nat))
  | [] => some []
  | .sg cs :: L => (madeP elder L).map (cs :: ·)
  | .cp p n :: L => if p + n ≤ elder.length then (madeP elder L).map ((elder.drop p).take n :: ·) else none
def madeC (elder : List Nat) (L : List Pc) : Option (List Nat) := (madeP elder L).map List.flatten
def resT : Option (List Nat) → ER
  | some cs => .d (.s cs)
  | none => .e 5
@[simp] theorem resT_some {cs : List Nat} : resT (some cs) = .d (.s cs) := rfl
@[simp] theorem resT_none : resT none = .e 5 := rfl
theorem madeP_len {elder : List Nat} : ∀ {L : List Pc} {ps : List (List Nat)}, madeP elder L = some ps → ps.length = L.length
  | [], _, h => by cases h; rfl
  | .sg cs :: L, ps, h => by
    unfold madeP at h
    cases e : madeP elder L with
    | none => rw [e] at h; cases h
    | some qs => rw [e] at h; cases h; simp [madeP_len e]
  | .cp p n :: L, ps, h => by
    unfold madeP at h
    split at h
    · cases e : madeP elder L with
      | none => rw [e] at h; cases h
      | some qs => rw [e] at h; cases h; simp [madeP_len e]
    · cases h
theorem cut_nn {cs : List Nat} {p n : Nat} : cutP cs (some (p : Int)) (some ((p : Int) + n)) = (cs.drop p).take n := by
  rw [cutP_nn (by omega) (by omega)]
  congr 1 <;> omega
theorem made_sg {elder : List Nat} {let0 : PV} {cs : List Nat} {xs : List PV} (hb : xs.length < big) :
    b1_p_made_of [.d (.s elder), .d let0, .m xs, .d (pcPV (.sg cs))] = some (.nx [.d (.s elder), .d let0, .m (xs ++ [.s cs]), .d (pcPV (.sg cs))]) := by
  simp [b1_p_made_of, hb]
theorem made_cp {elder : List Nat} (he : elder.length ≤ big) {let0 : PV} {p n : Nat} {xs : List PV} (hb : xs.length < big) :
    b1_p_made_of [.d (.s elder), .d let0, .m xs, .d (pcPV (.cp p n))] = if p + n ≤ elder.length then some (.nx [.d (.s elder), .d let0, .m (xs ++ [.s ((elder.drop p).take n)]), .d (pcPV (.cp p n))]) else some (.ex 5) := by
  by_cases h : p + n ≤ elder.length
  · simp [b1_p_made_of, hb, he, h, show ¬ (elder.length : Int) < (p : Int) + n by omega, cut_nn]
  · simp [b1_p_made_of, he, h, show (elder.length : Int) < (p : Int) + n by omega]
theorem made_loop {elder : List Nat} (he : elder.length ≤ big) {let0 : PV} : ∀ (L : List Pc) (ps : List (List Nat)) (s : Sl1), ps.length + L.length ≤ 1000000 →
    ∃ s', forGo (tgN 3) b1_p_made_of (letPV L) [.d (.s elder), .d let0, .m (ps.map .s), s] = match madeP elder L with
      | some qs => some (.nx [.d (.s elder), .d let0, .m ((ps ++ qs).map .s), s'])
      | none => some (.ex 5)
  | [], ps, s, _ => ⟨s, by simp [madeP]⟩
  | .sg cs :: L, ps, s, hl => by
    simp only [List.length_cons] at hl
    obtain ⟨s', ih⟩ := made_loop (let0 := let0) he L (ps ++ [cs]) (.d (pcPV (.sg cs))) (by simp; omega)
    refine ⟨s', ?_⟩
    have hb : (ps.map PV.s).length < big := by unfold big; simp; omega
    rw [List.map_append, List.map_singleton] at ih
    rw [letPV, List.map_cons, forGo_cons]
    simp only [tgN_ap, List.set_cons_succ, List.set_cons_zero, made_sg hb, tn_nx]
    rw [ih, madeP]
    cases madeP elder L <;> simp
  | .cp p n :: L, ps, s, hl => by
    simp only [List.length_cons] at hl
    obtain ⟨s', ih⟩ := made_loop (let0 := let0) he L (ps ++ [(elder.drop p).take n]) (.d (pcPV (.cp p n))) (by simp; omega)
    refine ⟨s', ?_⟩
    have hb : (ps.map PV.s).length < big := by unfold big; simp; omega
    rw [List.map_append, List.map_singleton] at ih
    rw [letPV, List.map_cons, forGo_cons]
    simp only [tgN_ap, List.set_cons_succ, List.set_cons_zero, made_cp he hb]
    rw [madeP]
    by_cases h : p + n ≤ elder.length
    · simp only [h, if_true, tn_nx]
      rw [ih]
      cases madeP elder L <;> simp
    · simp only [h, if_false, tn_ex]
theorem p_made_of_eq {elder : List Nat} {L : List Pc} (he : elder.length ≤ big) (hl : L.length ≤ 100000) (hm : ∀ cs, madeC elder L = some cs → cs.length ≤ big) :
    p_made_of [.s elder, .l (letPV L)] = some (resT (madeC elder L)) := by
  unfold p_made_of
  rw [fnD2]
  obtain ⟨s', e⟩ := made_loop he (let0 := .l (letPV L)) L [] .u (by simp; omega)
  simp [b_p_made_of]
  simp [letPV] at e
  rw [e]
  unfold madeC at hm ⊢
  cases hp : madeP elder L with
  | none => simp
  | some qs =>
    have hq := hm qs.flatten (by rw [hp]; rfl)
    have e2 : lensum qs + qs.length * ([] : List Nat).length ≤ big := by rw [lensum_flat]; simpa using hq
    simp [strsOf_map, joinL_nil] at e2 ⊢
    simp [e2]
theorem p_mended_eq {elder : List Nat} {L : List Pc} (he : okText elder) (hl : L.length ≤ 2000) (h : ∀ x ∈ L, okPc x) (hm : ∀ cs, madeC elder L = some cs → cs.length ≤ big) :
    p_mended [.s elder, .l (letPV L)] = some (resT (madeC elder L)) := by
  unfold p_mended
  rw [fnD2]
  have := he.1
  simp [b_p_mended, p_need_text_ok he, p_need_letter_ok hl h, p_made_of_eq (elder := elder) (L := L) (by unfold big; omega) (by omega) hm]
  cases madeC elder L <;> rfl
/-! ### the cost -/
def cost1 : Pc → Nat
  | .sg cs => cs.length
  | .cp _ _ => 1
def costC (L : List Pc) : Nat := (L.map cost1).sum
theorem sum_cast {α : Type} (g : α → Nat) : ∀ L : List α, (L.map fun a => ((g a : Nat) : Int)).sum = (((L.map g).sum : Nat) : Int)
  | [] => rfl
  | a :: L => by simp [sum_cast g L]
theorem p_cost_eq {L : List Pc} (hl : L.length ≤ 2000) (h : ∀ x ∈ L, okPc x) : p_cost [.l (letPV L)] = some (.d (.i (costC L))) := by
  unfold p_cost
  rw [fnD1]
  have hb : L.length ≤ big := by unfold big; omega
  have e : lcGo (tgN 1) cYes b1_p_cost [.d (.l (letPV L)), .u] (letPV L) [] = some ([] ++ L.map fun x => PV.i ((cost1 x : Nat) : Int)) := by
    refine lcGo_map (m := pcPV) (w := fun x => PV.i ((cost1 x : Nat) : Int)) (fun x hx => ⟨_, rfl, rfl, ?_⟩) []
    have hs := p_size_of_eq (x := x) fun cs e => by
      have := h x hx
      subst e
      have := this.2.1
      unfold big; omega
    cases x with
    | sg cs =>
      simp only [pcPV_sg] at hs
      simp [b1_p_cost, hs, size, cost1]
    | cp p n =>
      simp only [pcPV_cp] at hs
      simp [b1_p_cost, hs, size, cost1]
  simp only [letPV] at e
  have e2 := sum_cast cost1 L
  simp [b_p_cost, p_need_letter_ok hl h, hb, e, intsOf_map' (fun x => ((cost1 x : Nat) : Int)), costC, e2]
/-! ### plain -/
def putC : List Pc → Pc → List Pc
  | made, x => match made.getLast?, x with
    | some (.sg a), .sg b => made.dropLast ++ [.sg (a ++ b)]
    | some (.cp p n), .cp q m => if p + n = q then made.dropLast ++ [.cp p (n + m)] else made ++ [x]
    | _, _ => made ++ [x]
theorem putC_nil {x : Pc} : putC [] x = [x] := by simp [putC]
theorem putC_ss {made : List Pc} {a b : List Nat} : putC (made ++ [.sg a]) (.sg b) = made ++ [.sg (a ++ b)] := by simp [putC]
theorem putC_cc {made : List Pc} {p n q m : Nat} : putC (made ++ [.cp p n]) (.cp q m) = if p + n = q then made ++ [.cp p (n + m)] else made ++ [.cp p n] ++ [.cp q m] := by simp [putC]
theorem putC_sc {made : List Pc} {a : List Nat} {q m : Nat} : putC (made ++ [.sg a]) (.cp q m) = made ++ [.sg a] ++ [.cp q m] := by simp [putC]
theorem putC_cs {made : List Pc} {p n : Nat} {b : List Nat} : putC (made ++ [.cp p n]) (.sg b) = made ++ [.cp p n] ++ [.sg b] := by simp [putC]
theorem snoc_cases (made : List Pc) : made = [] ∨ ∃ init x, made = init ++ [x] := by
  rcases List.eq_nil_or_concat made with h | ⟨init, x, h⟩
  · exact .inl h
  · exact .inr ⟨init, x, by simpa using h⟩
/-- how long the signs of a letter's pieces are -/
def signsLen : List Pc → Nat
  | [] => 0
  | .sg cs :: L => cs.length + signsLen L
  | .cp _ _ :: L => signsLen L
theorem p_put_eq {made : List Pc} {x : Pc} (hl : made.length < 1000000) (hs : ∀ a b, .sg a ∈ made → x = .sg b → a.length + b.length ≤ big) : p_put (letPV made) (pcPV x) = some (letPV (putC made x)) := by
  unfold p_put
  rw [fnP_ap]
  have hb : made.length < big := by unfold big; omega
  rcases snoc_cases made with rfl | ⟨init, y, rfl⟩
  · simp [b_p_put, gNe_l0, putC_nil]
  · have hd := deps_let (init ++ [y])
    have e1 : gNe (.l (letPV init ++ [pcPV y])) (.l []) = some (.d (.b true)) := by
      rw [gNe_l0 (by simp [letPV] at hd ⊢; omega)]
      simp
    have hb2 : init.length + 1 < big := by simpa using hb
    cases y with
    | sg a =>
      cases x with
      | sg b =>
        have := hs a b (by simp) rfl
        simp only [letPV, pcPV_sg] at e1
        simp [b_p_put, letPV, e1, putC_ss, this]
      | cp q m =>
        simp only [letPV, pcPV_sg] at e1
        simp [b_p_put, letPV, e1, putC_sc, hb2]
    | cp p n =>
      cases x with
      | sg b =>
        simp only [letPV, pcPV_cp] at e1
        simp [b_p_put, letPV, e1, putC_cs, hb2]
      | cp q m =>
        simp only [letPV, pcPV_cp] at e1
        by_cases h : p + n = q
        · simp [b_p_put, letPV, e1, putC_cc, h, show (p : Int) + n = q by omega]
        · simp [b_p_put, letPV, e1, putC_cc, h, show ((p : Int) + n == (q : Int)) = false from (by rw [beq_eq_false_iff_ne]; omega), hb2]
def plainC (L : List Pc) : List Pc := L.foldl putC []
end DD
/-! marks: what each made sign is -/
namespace DD
open PySem PySem.Spec L2
def b1_q_marks : CS := (cIf (c2 gEq (c2 gIdx (cV 2) (cK (.i 0))) (cK (.s [115, 105, 103, 110, 115])))
    (cExt 1 (c1 gListS (c2 gIdx (cV 2) (cK (.i 1)))))
    (cExt 1 (c2 gListR (c2 gIdx (cV 2) (cK (.i 1))) (c2 gAdd (c2 gIdx (cV 2) (cK (.i 1))) (c2 gIdx (cV 2) (cK (.i 2)))))))
def b_q_marks : CS := (cSeq (cAsgM 1 (cLst []))
    (cSeq (cFor (iL (cV 0)) (tgN 2) b1_q_marks)
    (cRetV 1)))
def q_marks : List PV → Option ER := fnD 1 3 b_q_marks
def b_q_goes_on : CS := (cSeq (cIf (cOr (c1 (gIs "str") (cV 0)) (c1 (gIs "str") (cV 1)))
    (cRet (cAnd (c1 (gIs "str") (cV 0)) (c1 (gIs "str") (cV 1))))
    cNext)
    (cRet (c2 gEq (cV 1) (c2 gAdd (cV 0) (cK (.i 1))))))
def q_goes_on : List PV → Option ER := fnD 2 2 b_q_goes_on
def b1_q_of_marks : CS := (cIf (cAnd (c2 gGt (cV 2) (cK (.i 0))) (cCall q_goes_on [(c2 gIdx (cV 0) (c2 gSub (cV 2) (cK (.i 1)))), (c2 gIdx (cV 0) (cV 2))]))
    (cAppL 1 (c2 gIdx (cV 0) (cV 2)))
    (cAppG 1 (cLst [(c2 gIdx (cV 0) (cV 2))])))
def b2_q_of_marks : CS := (cIf (c1 (gIs "str") (c2 gIdx (cV 4) (cK (.i 0))))
    (cApp 3 (cTup [(cK (.s [115, 105, 103, 110, 115])), (cM1 gJoin (cK (.s [])) (cV 4))]))
    (cApp 3 (cTup [(cK (.s [99, 111, 112, 121])), (c2 gIdx (cV 4) (cK (.i 0))), (c1 gLen (cV 4))])))
def b_q_of_marks : CS := (cSeq (cAsgG 1 (cLst []))
    (cSeq (cFor (iR1 (c1 gLen (cV 0))) (tgN 2) b1_q_of_marks)
    (cFrzG 1 (cSeq (cAsgM 3 (cLst []))
    (cSeq (cFor (iL (cV 1)) (tgN 4) b2_q_of_marks)
    (cRetV 3))))))
def q_of_marks : List PV → Option ER := fnD 1 5 b_q_of_marks
theorem plain_loop {a0 : PV} : ∀ (L made : List Pc) (s : Sl1) (k : Nat), made.length + L.length < 1000000 → k + signsLen L ≤ big → (∀ a, .sg a ∈ made → a.length ≤ k) →
    ∃ s', forGo (tgN 2) b1_p_plain_of (letPV L) [.d a0, .m (letPV made), s] = some (.nx [.d a0, .m (letPV (L.foldl putC made)), s'])
  | [], made, s, k, _, _, _ => ⟨s, by simp⟩
  | x :: L, made, s, k, hl, hk, hs => by
    simp only [List.length_cons] at hl
    have hp : p_put (letPV made) (pcPV x) = some (letPV (putC made x)) := p_put_eq (by omega) fun a b ha hb => by
      have := hs a ha
      subst hb
      simp only [signsLen] at hk
      omega
    have hlen : (putC made x).length ≤ made.length + 1 := by
      rcases snoc_cases made with rfl | ⟨init, y, rfl⟩
      · simp [putC_nil]
      · cases y <;> cases x
        · simp [putC_ss]
        · simp [putC_sc]
        · simp [putC_cs]
        · rw [putC_cc]
          split <;> simp
    have hm : ∀ k', (∀ cs, x = .sg cs → k + cs.length ≤ k') → k ≤ k' → ∀ a, .sg a ∈ putC made x → a.length ≤ k' := fun k' h1 h2 a ha => by
      rcases snoc_cases made with rfl | ⟨init, y, rfl⟩
      · rw [putC_nil] at ha
        have := h1 a (List.mem_singleton.mp ha).symm
        omega
      · have old : .sg a ∈ init ++ [y] → a.length ≤ k' := fun h => by have := hs a h; omega
        have new : .sg a = x → a.length ≤ k' := fun h => by have := h1 a h.symm; omega
        cases y with
        | sg b =>
          cases x with
          | sg c =>
            rw [putC_ss] at ha
            rcases List.mem_append.mp ha with h | h
            · exact old (by simp [h])
            · have := hs b (by simp)
              have := h1 c rfl
              have e : a = b ++ c := by simpa using h
              rw [e]
              simp
              omega
          | cp q m =>
            rw [putC_sc] at ha
            rcases List.mem_append.mp ha with h | h
            · exact old h
            · exact new (by simpa using h)
        | cp p n =>
          cases x with
          | sg c =>
            rw [putC_cs] at ha
            rcases List.mem_append.mp ha with h | h
            · exact old h
            · exact new (by simpa using h)
          | cp q m =>
            rw [putC_cc] at ha
            split at ha
            · rcases List.mem_append.mp ha with h | h
              · exact old (by simp [h])
              · simp at h
            · rcases List.mem_append.mp ha with h | h
              · exact old h
              · exact new (by simpa using h)
    have step : b1_p_plain_of [.d a0, .m (letPV made), .d (pcPV x)] = some (.nx [.d a0, .m (letPV (putC made x)), .d (pcPV x)]) := by
      simp [b1_p_plain_of, hp]
    cases x with
    | sg cs =>
      simp only [signsLen] at hk
      obtain ⟨s', ih⟩ := plain_loop L (putC made (.sg cs)) (.d (pcPV (.sg cs))) (k + cs.length) (by omega) (by omega) (hm _ (fun c e => by cases e; omega) (by omega))
      refine ⟨s', ?_⟩
      rw [letPV, List.map_cons, forGo_cons]
      simp only [tgN_ap, List.set_cons_succ, List.set_cons_zero, step, tn_nx, List.foldl_cons]
      exact ih
    | cp p n =>
      simp only [signsLen] at hk
      obtain ⟨s', ih⟩ := plain_loop L (putC made (.cp p n)) (.d (pcPV (.cp p n))) k (by omega) hk (hm _ (fun c e => by cases e) (by omega))
      refine ⟨s', ?_⟩
      rw [letPV, List.map_cons, forGo_cons]
      simp only [tgN_ap, List.set_cons_succ, List.set_cons_zero, step, tn_nx, List.foldl_cons]
      exact ih
theorem p_plain_of_eq {L : List Pc} (hl : L.length < 100000) (hs : signsLen L ≤ big) : p_plain_of [.l (letPV L)] = some (.f (letPV (plainC L))) := by
  unfold p_plain_of
  rw [fnD1]
  obtain ⟨s', e⟩ := plain_loop (a0 := .l (letPV L)) L [] .u 0 (by simp; omega) (by omega) (by simp)
  simp [b_p_plain_of]
  simp [letPV] at e
  rw [e]
  simp [plainC]
theorem p_plain_eq {L : List Pc} (hl : L.length ≤ 2000) (h : ∀ x ∈ L, okPc x) (hs : signsLen L ≤ big) : p_plain [.l (letPV L)] = some (.f (letPV (plainC L))) := by
  unfold p_plain
  rw [fnD1]
  simp [b_p_plain, p_need_letter_ok hl h, p_plain_of_eq (show L.length < 100000 by omega) hs]
/-! ### marks -/
inductive Mk where
  | s (c : Nat) | p (n : Nat)
  deriving DecidableEq
def mkPV : Mk → PV
  | .s c => .s [c]
  | .p n => .i n
@[simp] theorem mkPV_s {c : Nat} : mkPV (.s c) = .s [c] := rfl
@[simp] theorem mkPV_p {n : Nat} : mkPV (.p n) = .i n := rfl
abbrev rowPV (r : List Mk) : List PV := r.map mkPV
def marks1 : Pc → List Mk
  | .sg cs => cs.map .s
  | .cp p n => (List.range n).map fun k => .p (p + k)
def marksC (L : List Pc) : List Mk := L.flatMap marks1
theorem marks1_len (x : Pc) : (marks1 x).length = size x := by cases x <;> simp [marks1, size]
def goesOn : Mk → Mk → Bool
  | .s _, .s _ => true
  | .p n, .p m => decide (m = n + 1)
  | _, _ => false
theorem q_goes_on_eq (a b : Mk) : q_goes_on [mkPV a, mkPV b] = some (.d (.b (goesOn a b))) := by
  unfold q_goes_on
  rw [fnD2]
  cases a with
  | s c => cases b <;> simp [b_q_goes_on, isS, goesOn]
  | p n =>
    cases b with
    | s c => simp [b_q_goes_on, isS, goesOn]
    | p m =>
      simp [b_q_goes_on, isS, goesOn]
      by_cases h : m = n + 1
      · subst h; simp
      · simp [h]; omega
theorem q_marks_loop {a0 : PV} : ∀ (L : List Pc) (row : List Mk) (s : Sl1), row.length + (marksC L).length ≤ 1000000 → (∀ p n, .cp p n ∈ L → p + n ≤ 1000000000) →
    ∃ s', forGo (tgN 2) b1_q_marks (letPV L) [.d a0, .m (rowPV row), s] = some (.nx [.d a0, .m (rowPV (row ++ marksC L)), s'])
  | [], row, s, _, _ => ⟨s, by simp [marksC]⟩
  | x :: L, row, s, hl, hp => by
    have e : marksC (x :: L) = marks1 x ++ marksC L := by simp [marksC]
    rw [e] at hl ⊢
    simp only [List.length_append] at hl
    obtain ⟨s', ih⟩ := q_marks_loop (a0 := a0) L (row ++ marks1 x) (.d (pcPV x)) (by simp; omega) fun p n h => hp p n (by simp [h])
    refine ⟨s', ?_⟩
    have step : b1_q_marks [.d a0, .m (rowPV row), .d (pcPV x)] = some (.nx [.d a0, .m (rowPV (row ++ marks1 x)), .d (pcPV x)]) := by
      rw [marks1_len] at hl
      cases x with
      | sg cs =>
        simp only [size] at hl
        have h1 : cs.length ≤ big := by unfold big; omega
        have h2 : row.length + cs.length ≤ big := by unfold big; omega
        simp [b1_q_marks, h1, h2, marks1]
      | cp p n =>
        simp only [size] at hl
        have := hp p n (by simp)
        have h2 : row.length + n ≤ big := by unfold big; omega
        have h3 : ((p : Int) + n - p).natAbs ≤ big := by unfold big; omega
        have h4 : ((p : Int) + n).natAbs < 1073741824 := by omega
        have h5 : ((p : Int) + n - p).toNat = n := by omega
        simp [b1_q_marks, h3, h4, h5, upTo, h2, marks1, show p < 1073741824 by omega]
    rw [letPV, List.map_cons, forGo_cons]
    simp only [tgN_ap, List.set_cons_succ, List.set_cons_zero, step, tn_nx]
    rw [← List.append_assoc]
    exact ih
theorem q_marks_eq {L : List Pc} (hl : (marksC L).length ≤ 1000000) (hp : ∀ p n, .cp p n ∈ L → p + n ≤ 1000000000) : q_marks [.l (letPV L)] = some (.f (rowPV (marksC L))) := by
  unfold q_marks
  rw [fnD1]
  obtain ⟨s', e⟩ := q_marks_loop (a0 := .l (letPV L)) L [] .u (by simp; omega) hp
  simp [b_q_marks]
  simp [letPV] at e
  rw [e]
  simp
end DD
/-! groups of marks; plain letters by marks -/
namespace DD
open PySem PySem.Spec L2
theorem snoc_ind {α : Type} {motive : List α → Prop} (h0 : motive []) (hs : ∀ l a, motive l → motive (l ++ [a])) (l : List α) : motive l := by
  have key : ∀ r : List α, motive r.reverse := fun r => by
    induction r with
    | nil => exact h0
    | cons a r ih => rw [List.reverse_cons]; exact hs _ _ ih
  have := key l.reverse
  rwa [List.reverse_reverse] at this
def gStep (gs : List (List Mk)) (m : Mk) : List (List Mk) := match gs.getLast? with
  | some g => (match g.getLast? with
    | some l => if goesOn l m = true then gs.dropLast ++ [g ++ [m]] else gs ++ [[m]]
    | none => gs ++ [[m]])
  | none => gs ++ [[m]]
def groups (row : List Mk) : List (List Mk) := row.foldl gStep []
theorem groups_snoc {row : List Mk} {m : Mk} : groups (row ++ [m]) = gStep (groups row) m := by simp [groups]
theorem gStep_at {gs : List (List Mk)} {g : List Mk} {l m : Mk} : gStep (gs ++ [g ++ [l]]) m = if goesOn l m = true then gs ++ [g ++ [l] ++ [m]] else gs ++ [g ++ [l]] ++ [[m]] := by
  simp [gStep]
theorem gStep_nil {m : Mk} : gStep [] m = [[m]] := by simp [gStep]
theorem gStep_end (gs : List (List Mk)) (m : Mk) : ∃ hs h, gStep gs m = hs ++ [h ++ [m]] := by
  unfold gStep
  split
  · split
    · split
      · exact ⟨_, _, rfl⟩
      · exact ⟨_, [], rfl⟩
    · exact ⟨_, [], rfl⟩
  · exact ⟨_, [], rfl⟩
theorem gStep_len {gs : List (List Mk)} {m : Mk} : (gStep gs m).length ≤ gs.length + 1 := by
  unfold gStep
  split
  · split
    · split
      · simp
      · simp
    · simp
  · simp
theorem groups_len : ∀ row : List Mk, (groups row).length ≤ row.length := by
  intro row
  induction row using snoc_ind with
  | h0 => simp [groups]
  | hs row m ih =>
    rw [groups_snoc]
    have := gStep_len (gs := groups row) (m := m)
    simp
    omega
theorem groups_lens : ∀ (row : List Mk) (g : List Mk), g ∈ groups row → g.length ≤ row.length := by
  intro row
  induction row using snoc_ind with
  | h0 => intro g h; simp [groups] at h
  | hs row m ih =>
    intro g h
    rw [groups_snoc] at h
    rcases List.eq_nil_or_concat (groups row) with e | ⟨gs, g0, e⟩
    · rw [e, gStep_nil] at h
      rw [List.mem_singleton.mp h]
      simp
    · rw [List.concat_eq_append] at e
      have h0 := ih g0 (by rw [e]; simp)
      rw [e] at h
      rcases List.eq_nil_or_concat g0 with e2 | ⟨g1, l, e2⟩
      · subst e2
        have : gStep (gs ++ [[]]) m = gs ++ [[]] ++ [[m]] := by simp [gStep]
        rw [this] at h
        rcases List.mem_append.mp h with h | h
        · have := ih g (by rw [e]; exact h)
          simp; omega
        · rw [List.mem_singleton.mp h]; simp
      · rw [List.concat_eq_append] at e2
        subst e2
        rw [gStep_at] at h
        split at h
        · rcases List.mem_append.mp h with h | h
          · have := ih g (by rw [e]; simp [h])
            simp; omega
          · rw [List.mem_singleton.mp h]
            simp at h0 ⊢
            omega
        · rcases List.mem_append.mp h with h | h
          · have := ih g (by rw [e]; exact h)
            simp; omega
          · rw [List.mem_singleton.mp h]; simp
/-! ### the loop that groups -/
abbrev grPV (gs : List (List Mk)) : List (List PV) := gs.map rowPV
theorem take_snoc {row : List Mk} {k : Nat} (h : k < row.length) : row.take (k + 1) = row.take k ++ [row[k]] := by
  rw [List.take_succ_eq_append_getElem h]
theorem idx_row {row : List Mk} {k : Nat} (h : k < row.length) : gIdx (.l (rowPV row)) (.i (k : Int)) = some (.d (mkPV row[k])) := by
  rw [gIdx_l, atI_nn (by omega)]
  simp [h]
theorem group_turn {row : List Mk} (hl : row.length ≤ 100000) {k : Nat} (hk : k < row.length) {s3 s4 : Sl1} :
    b1_q_of_marks [.d (.l (rowPV row)), .g (grPV (groups (row.take k))), .d (.i (k : Int)), s3, s4] = some (.nx [.d (.l (rowPV row)), .g (grPV (groups (row.take (k + 1)))), .d (.i (k : Int)), s3, s4]) := by
  have hb : (groups (row.take k)).length < big := by
    have := groups_len (row.take k)
    simp at this
    unfold big; omega
  rw [take_snoc hk, groups_snoc]
  have ix := idx_row hk
  by_cases h0 : k = 0
  · subst h0
    rw [show ((0 : Nat) : Int) = 0 from rfl] at ix
    have e : groups (row.take 0) = [] := by simp [groups]
    rw [e, gStep_nil]
    simp [-gIdx_l, b1_q_of_marks, ix]
  · obtain ⟨j, rfl⟩ : ∃ j, k = j + 1 := ⟨k - 1, by omega⟩
    have hj : j < row.length := by omega
    have ix0 := idx_row hj
    rw [take_snoc hj, groups_snoc] at hb ⊢
    obtain ⟨hs, h, e⟩ := gStep_end (groups (row.take j)) row[j]
    rw [e] at hb ⊢
    have hgl : (h ++ [row[j]]).length ≤ 100000 := by
      have := groups_lens (row.take (j + 1)) (h ++ [row[j]]) (by rw [take_snoc hj, groups_snoc, e]; simp)
      simp at this ⊢
      omega
    rw [gStep_at]
    have hg := q_goes_on_eq row[j] row[j + 1]
    have ix1 : gIdx (.l (rowPV row)) (.i ((j : Int) + 1 - 1)) = some (.d (mkPV row[j])) := by rw [← ix0]; congr 2; omega
    have ixk : gIdx (.l (rowPV row)) (.i ((j : Int) + 1)) = some (.d (mkPV row[j + 1])) := ix
    have hpos : (0 : Int) < (j : Int) + 1 := by omega
    have hb2 : (h ++ [row[j]]).length < big := by unfold big; omega
    have hb3 : (hs ++ [h ++ [row[j]]]).length < big := hb
    simp only [grPV, List.map_append, List.map_singleton]
    cases hgo : goesOn row[j] row[j + 1] with
    | true =>
      rw [hgo] at hg
      simp only [if_true, List.map_append, List.map_singleton]
      have hb4 : (rowPV h ++ [mkPV row[j]]).length < big := by simpa using hb2
      simp only [b1_q_of_marks, cIf_ap, cAnd_ap, c2_ap, cV_ap, cK_ap, cCall_ap, cA_cons, cA_nil, List.getElem?_cons_succ, List.getElem?_cons_zero, e1_d, gGt_i, Int.natCast_add, Int.natCast_one, Int.cast_ofNat_Int, decide_eq_true hpos, an_t, gSub_i, ix1, ixk, eS_d, hg, br_t, cAppL_ap, apL_g, lS_d, if_pos hb4, List.set_cons_succ, List.set_cons_zero]
    | false =>
      rw [hgo] at hg
      have hb5 : (List.map rowPV hs ++ [rowPV h ++ [mkPV row[j]]]).length < big := by simpa using hb3
      simp only [Bool.false_eq_true, if_false, List.map_append, List.map_singleton]
      simp only [b1_q_of_marks, cIf_ap, cAnd_ap, c2_ap, cV_ap, cK_ap, cCall_ap, cA_cons, cA_nil, List.getElem?_cons_succ, List.getElem?_cons_zero, e1_d, gGt_i, Int.natCast_add, Int.natCast_one, Int.cast_ofNat_Int, decide_eq_true hpos, an_t, gSub_i, ix1, ixk, eS_d, hg, br_f, cAppG_ap, cLst_ap, List.length_singleton, big_1, if_true, apG_f, if_pos hb5, List.set_cons_succ, List.set_cons_zero]
/-! ### a group as a piece -/
def chr : Mk → Nat
  | .s c => c
  | .p _ => 0
def toPc : List Mk → Pc
  | .p n :: r => .cp n (r.length + 1)
  | g => .sg (g.map chr)
def GoodG (g : List Mk) : Prop := (∃ c cs, g = (c :: cs).map .s) ∨ ∃ p n, g = (List.range (n + 1)).map fun k => .p (p + k)
theorem toPc_s {cs : List Nat} : toPc (cs.map .s) = .sg cs := by
  have e : toPc (cs.map .s) = .sg ((cs.map Mk.s).map chr) := by cases cs <;> rfl
  rw [e, List.map_map]
  congr 1
  conv => rhs; rw [← List.map_id cs]
  rfl
theorem toPc_p {p n : Nat} : toPc ((List.range (n + 1)).map fun k => .p (p + k)) = .cp p (n + 1) := by
  rw [List.range_succ_eq_map, List.map_cons]
  simp [toPc]
abbrev unitM : Mk → Pc
  | .s c => .sg [c]
  | .p n => .cp n 1
def pushM (made : List Pc) (m : Mk) : List Pc := putC made (unitM m)
theorem groups_good : ∀ row : List Mk, (∀ g ∈ groups row, GoodG g) ∧ (groups row).map toPc = row.foldl pushM [] := by
  intro row
  induction row using snoc_ind with
  | h0 => simp [groups]
  | hs row m ih =>
    obtain ⟨ih1, ih2⟩ := ih
    rw [groups_snoc, List.foldl_append, ← ih2]
    have good1 : GoodG [m] := by
      cases m with
      | s c => exact .inl ⟨c, [], rfl⟩
      | p n => exact .inr ⟨n, 0, by simp⟩
    have pc1 : toPc [m] = unitM m := by cases m <;> rfl
    show _ ∧ _ = pushM ((groups row).map toPc) m
    rcases List.eq_nil_or_concat (groups row) with e | ⟨gs, g, e⟩
    · rw [e, gStep_nil]
      refine ⟨fun g h => by rw [List.mem_singleton.mp h]; exact good1, ?_⟩
      simp [pushM, putC_nil, pc1]
    · rw [List.concat_eq_append] at e
      rw [e] at ih1 ⊢
      have hgs : ∀ h ∈ gs, GoodG h := fun h hm => ih1 h (by simp [hm])
      have allnew : ∀ g' : List Mk, GoodG g' → ∀ h ∈ gs ++ [g'], GoodG h := fun g' hg' h hm => by
        rcases List.mem_append.mp hm with hm | hm
        · exact hgs h hm
        · rw [List.mem_singleton.mp hm]; exact hg'
      have allapp : GoodG g → ∀ h ∈ gs ++ [g] ++ [[m]], GoodG h := fun hg h hm => by
        rcases List.mem_append.mp hm with hm | hm
        · exact allnew g hg h hm
        · rw [List.mem_singleton.mp hm]; exact good1
      rcases ih1 g (by simp) with ⟨c, cs, rfl⟩ | ⟨p, n, rfl⟩
      · have hl : ∃ g1 l, (c :: cs).map Mk.s = g1 ++ [.s l] := by
          rcases List.eq_nil_or_concat (c :: cs) with h | ⟨r, l, h⟩
          · cases h
          · rw [h]; exact ⟨r.map .s, l, by simp⟩
        obtain ⟨g1, l, hl⟩ := hl
        cases m with
        | s d =>
          have : gStep (gs ++ [(c :: cs).map .s]) (.s d) = gs ++ [(c :: (cs ++ [d])).map .s] := by
            rw [hl, gStep_at]
            simp only [goesOn, if_true]
            rw [← hl]
            simp
          rw [this]
          refine ⟨allnew _ (.inl ⟨c, cs ++ [d], rfl⟩), ?_⟩
          rw [List.map_append, List.map_append, List.map_singleton, List.map_singleton, toPc_s, toPc_s]
          unfold pushM
          rw [unitM, putC_ss]
          simp
        | p q =>
          have : gStep (gs ++ [(c :: cs).map .s]) (.p q) = gs ++ [(c :: cs).map .s] ++ [[.p q]] := by
            rw [hl, gStep_at]
            simp [goesOn]
          rw [this]
          refine ⟨allapp (.inl ⟨c, cs, rfl⟩), ?_⟩
          simp only [List.map_append, List.map_singleton]
          rw [toPc_s, pc1]
          unfold pushM
          rw [unitM, putC_sc]
      · have hl : (List.range (n + 1)).map (fun k => Mk.p (p + k)) = (List.range n).map (fun k => Mk.p (p + k)) ++ [.p (p + n)] := by
          rw [List.range_succ, List.map_append, List.map_singleton]
        cases m with
        | s d =>
          have : gStep (gs ++ [(List.range (n + 1)).map fun k => .p (p + k)]) (.s d) = gs ++ [(List.range (n + 1)).map fun k => .p (p + k)] ++ [[.s d]] := by
            rw [hl, gStep_at]
            simp [goesOn]
          rw [this]
          refine ⟨allapp (.inr ⟨p, n, rfl⟩), ?_⟩
          simp only [List.map_append, List.map_singleton]
          rw [toPc_p, pc1]
          unfold pushM
          rw [unitM, putC_cs]
        | p q =>
          by_cases h : q = p + n + 1
          · have : gStep (gs ++ [(List.range (n + 1)).map fun k => .p (p + k)]) (.p q) = gs ++ [(List.range (n + 1 + 1)).map fun k => .p (p + k)] := by
              rw [hl, gStep_at]
              simp only [goesOn, decide_eq_true h, if_true]
              rw [← hl, List.range_succ (n := n + 1), List.map_append, List.map_singleton, h]
              rfl
            rw [this]
            refine ⟨allnew _ (.inr ⟨p, n + 1, rfl⟩), ?_⟩
            simp only [List.map_append, List.map_singleton]
            rw [toPc_p, toPc_p]
            unfold pushM
            rw [unitM, putC_cc, if_pos (by omega)]
          · have : gStep (gs ++ [(List.range (n + 1)).map fun k => .p (p + k)]) (.p q) = gs ++ [(List.range (n + 1)).map fun k => .p (p + k)] ++ [[.p q]] := by
              rw [hl, gStep_at]
              simp [goesOn, h]
            rw [this]
            refine ⟨allapp (.inr ⟨p, n, rfl⟩), ?_⟩
            simp only [List.map_append, List.map_singleton]
            rw [toPc_p, pc1]
            unfold pushM
            rw [unitM, putC_cc, if_neg (by omega)]
theorem good_turn {g : List Mk} (hg : GoodG g) (hl : g.length ≤ 100000) {s0 s1 s2 : Sl1} {xs : List PV} (hx : xs.length < 1000000) :
    b2_q_of_marks [s0, s1, s2, .m xs, .d (.l (rowPV g))] = some (.nx [s0, s1, s2, .m (xs ++ [pcPV (toPc g)]), .d (.l (rowPV g))]) := by
  have hb : xs.length < big := by unfold big; omega
  rcases hg with ⟨c, cs, rfl⟩ | ⟨p, n, rfl⟩
  · rw [toPc_s]
    have e : rowPV ((c :: cs).map .s) = ((c :: cs).map fun x => [x]).map PV.s := by simp [rowPV, mkPV]
    have e2 : lensum ((c :: cs).map fun x => [x]) ≤ big := by
      rw [lensum_flat]
      have : ((c :: cs).map fun x => [x]).flatten = c :: cs := by
        induction (c :: cs) with
        | nil => rfl
        | cons a r ih => simpa using ih
      rw [this]
      rw [List.length_map] at hl
      unfold big; omega
    have e3 : ((c :: cs).map fun x => [x]).flatten = c :: cs := by
      induction (c :: cs) with
      | nil => rfl
      | cons a r ih => simpa using ih
    have hj : gJoin [] (.l (rowPV ((c :: cs).map .s))) = some (.d (.s (c :: cs))) := by
      rw [e, gJoin_l, strsOf_map]
      simp only [Option.bind, joinL_nil, e3, List.length_nil, Nat.mul_zero, Nat.add_zero, if_pos e2]
    have h0 : gIdx (.l (rowPV ((c :: cs).map .s))) (.i 0) = some (.d (.s [c])) := by simp
    simp [-gIdx_l, -gJoin_l, b2_q_of_marks, hj, h0, isS, hb]
    simp only [List.map_cons] at hj h0
    simp [-gIdx_l, -gJoin_l, rowPV] at hj h0
    simp [-gIdx_l, -gJoin_l, hj, h0, isS, hb]
  · rw [toPc_p]
    have h0 : gIdx (.l (rowPV ((List.range (n + 1)).map fun k => Mk.p (p + k)))) (.i 0) = some (.d (.i p)) := by
      rw [List.range_succ_eq_map]
      simp
    generalize hr : rowPV ((List.range (n + 1)).map fun k => Mk.p (p + k)) = r at *
    have hrl : r.length = n + 1 := by rw [← hr]; simp
    simp [-gIdx_l, b2_q_of_marks, h0, isS, hb, hrl]
theorem q_of_marks_eq {row : List Mk} (hl : row.length ≤ 100000) : q_of_marks [.l (rowPV row)] = some (.f (letPV ((groups row).map toPc))) := by
  unfold q_of_marks
  rw [fnD1]
  have k1 := forGo_inv (tg := tgN 2) (s := b1_q_of_marks) (m := fun k : Nat => PV.i (0 + (k : Nat))) (L := List.range row.length)
    (ρ := [.d (.l (rowPV row)), .g [], .u, .u, .u])
    (S := fun pre ρ => ∃ a, ρ = [.d (.l (rowPV row)), .g (grPV (groups (row.take pre.length))), a, .u, .u])
    ⟨.u, by simp [groups]⟩ (by
    rintro pre k post hL ρ1 ⟨a, rfl⟩
    obtain ⟨rfl, hlt⟩ := range_split hL
    simp only [tgN_ap, List.set_cons_succ, List.set_cons_zero, tu_some, Int.zero_add]
    rw [group_turn hl hlt]
    exact ⟨.d (.i pre.length), by simp⟩)
  obtain ⟨ρ1, e1, a, rfl⟩ := k1
  simp only [List.length_range, List.take_length] at e1
  have k2 := forGo_inv (tg := tgN 4) (s := b2_q_of_marks) (m := fun g : List Mk => PV.l (rowPV g)) (L := groups row)
    (ρ := [.d (.l (rowPV row)), .d (.l ((grPV (groups row)).map .l)), a, .m [], .u])
    (S := fun pre ρ => ∃ b, ρ = [.d (.l (rowPV row)), .d (.l ((grPV (groups row)).map .l)), a, .m (letPV (pre.map toPc)), b])
    ⟨.u, rfl⟩ (by
    rintro pre g post hL ρ1 ⟨b, rfl⟩
    have hmem : g ∈ groups row := by rw [hL]; simp
    have hg := (groups_good row).1 g hmem
    have hgl := groups_lens row g hmem
    have hpl : pre.length ≤ row.length := by
      have := groups_len row
      rw [hL] at this
      simp at this
      omega
    simp only [tgN_ap, List.set_cons_succ, List.set_cons_zero, tu_some]
    rw [good_turn hg (by omega) (by simp; omega)]
    exact ⟨.d (.l (rowPV g)), by simp⟩)
  obtain ⟨ρ2, e2, b, rfl⟩ := k2
  have hlim : row.length < lim := by unfold lim; omega
  have hgm : (grPV (groups row)).map PV.l = (groups row).map fun g => PV.l (rowPV g) := by rw [grPV, List.map_map]; rfl
  rw [hgm] at e2
  simp only [b_q_of_marks, cSeq_ap, cAsgG_ap, cLst_ap, cA_nil, List.length_nil, Nat.zero_le, if_true, asG_f, sq_nx, rep4, List.set_cons_succ, List.set_cons_zero, cFor_ap, iR1_ap, c1_ap, cV_ap, List.getElem?_cons_zero, e1_d, gLen_l, List.length_map, uR1_i, Int.natAbs_natCast, if_pos hlim, fr_f, upTo_map, Int.toNat_natCast, e1,
    cFrzG_ap, List.getElem?_cons_succ, fzG_g, cAsgM_ap, asM_f, iL_ap, eS_d, uL_l, hgm, e2, cRetV_ap, rtV_m, fin_rt, show List.replicate (5 - 1) Sl1.u = [.u, .u, .u, .u] from rfl]
end DD
/-! plain letters by their marks -/
namespace DD
open PySem PySem.Spec L2
abbrev ofM (row : List Mk) : List Pc := row.foldl pushM []
theorem q_of_marks_eq' {row : List Mk} (hl : row.length ≤ 100000) : q_of_marks [.l (rowPV row)] = some (.f (letPV (ofM row))) := by
  rw [q_of_marks_eq hl, (groups_good row).2]
theorem marks_append (a b : List Pc) : marksC (a ++ b) = marksC a ++ marksC b := by simp [marksC]
theorem marks_one (x : Pc) : marksC [x] = marks1 x := by simp [marksC]
theorem marks_put (made : List Pc) (x : Pc) : marksC (putC made x) = marksC made ++ marks1 x := by
  rcases snoc_cases made with rfl | ⟨init, y, rfl⟩
  · rw [putC_nil, marks_one]; simp [marksC]
  · cases y with
    | sg a =>
      cases x with
      | sg b => rw [putC_ss, marks_append, marks_append, marks_one, marks_one]; simp [marks1]
      | cp q m => rw [putC_sc, marks_append, marks_one]
    | cp p n =>
      cases x with
      | sg b => rw [putC_cs, marks_append, marks_one]
      | cp q m =>
        rw [putC_cc]
        split
        · rename_i h
          rw [marks_append, marks_append, marks_one, marks_one, List.append_assoc]
          congr 1
          simp only [marks1]
          rw [List.range_add, List.map_append, List.map_map]
          congr 1
          apply List.map_congr_left
          intro k _
          simp
          omega
        · rw [marks_append, marks_one]
theorem marks_foldPut : ∀ (L made : List Pc), marksC (L.foldl putC made) = marksC made ++ marksC L
  | [], made => by simp [marksC]
  | x :: L, made => by
    rw [List.foldl_cons, marks_foldPut L, marks_put, List.append_assoc]
    simp [marksC]
theorem marks_plain (L : List Pc) : marksC (plainC L) = marksC L := by
  rw [plainC, marks_foldPut]
  simp [marksC]
/-- pieces that make something -/
def ne (x : Pc) : Prop := 1 ≤ size x
theorem push_signs : ∀ (cs : List Nat) (init : List Pc) (a : List Nat), (cs.map Mk.s).foldl pushM (init ++ [.sg a]) = init ++ [.sg (a ++ cs)]
  | [], init, a => by simp
  | c :: cs, init, a => by
    rw [List.map_cons, List.foldl_cons]
    show (cs.map Mk.s).foldl pushM (putC (init ++ [.sg a]) (.sg [c])) = _
    rw [putC_ss, push_signs cs]
    simp
theorem push_places : ∀ (m : Nat) (init : List Pc) (p n : Nat), ((List.range m).map fun k => Mk.p (p + n + k)).foldl pushM (init ++ [.cp p n]) = init ++ [.cp p (n + m)]
  | 0, init, p, n => by simp
  | m + 1, init, p, n => by
    rw [List.range_succ_eq_map, List.map_cons, List.foldl_cons, List.map_map]
    show ((List.range m).map _).foldl pushM (putC (init ++ [.cp p n]) (.cp (p + n + 0) 1)) = _
    rw [putC_cc, if_pos (by omega)]
    have e : ((List.range m).map ((fun k => Mk.p (p + n + k)) ∘ Nat.succ)) = (List.range m).map fun k => Mk.p (p + (n + 1) + k) := by
      apply List.map_congr_left
      intro k _
      simp
      omega
    rw [e, push_places m init p (n + 1)]
    congr 3
    omega
theorem put_fold {made : List Pc} {x : Pc} (h : ne x) : putC made x = (marks1 x).foldl pushM made := by
  cases x with
  | sg cs =>
    cases cs with
    | nil => simp [ne, size] at h
    | cons c cs =>
      show _ = ((c :: cs).map Mk.s).foldl pushM made
      rw [List.map_cons, List.foldl_cons]
      show _ = (cs.map Mk.s).foldl pushM (putC made (.sg [c]))
      rcases snoc_cases made with rfl | ⟨init, y, rfl⟩
      · rw [putC_nil, putC_nil]
        have := push_signs cs [] [c]
        simpa using this.symm
      · cases y with
        | sg a => rw [putC_ss, putC_ss, push_signs]; simp
        | cp p n => rw [putC_cs, putC_cs, push_signs]; simp
  | cp q n =>
    obtain ⟨m, rfl⟩ : ∃ m, n = m + 1 := ⟨n - 1, by simp [ne, size] at h; omega⟩
    show _ = ((List.range (m + 1)).map fun k => Mk.p (q + k)).foldl pushM made
    rw [List.range_succ_eq_map, List.map_cons, List.foldl_cons, List.map_map]
    show _ = ((List.range m).map ((fun k => Mk.p (q + k)) ∘ Nat.succ)).foldl pushM (putC made (.cp q 1))
    have e : ∀ p k, p + k = q → ((List.range m).map ((fun k => Mk.p (q + k)) ∘ Nat.succ)) = (List.range m).map fun j => Mk.p (p + (k + 1) + j) := by
      intro p k hp
      apply List.map_congr_left
      intro j _
      simp
      omega
    rcases snoc_cases made with rfl | ⟨init, y, rfl⟩
    · rw [putC_nil, putC_nil, e q 0 (by omega)]
      have := push_places m [] q 1
      simp only [List.nil_append] at this
      rw [show 0 + 1 = 1 from rfl, this, Nat.add_comm]
    · cases y with
      | sg a =>
        rw [putC_sc, putC_sc, e q 0 (by omega), show 0 + 1 = 1 from rfl, push_places m (init ++ [Pc.sg a]) q 1, Nat.add_comm]
      | cp p n =>
        rw [putC_cc, putC_cc]
        by_cases h2 : p + n = q
        · rw [if_pos h2, if_pos h2, e p n h2, push_places m init p (n + 1)]
          congr 3
          omega
        · rw [if_neg h2, if_neg h2, e q 0 (by omega), show 0 + 1 = 1 from rfl, push_places m (init ++ [Pc.cp p n]) q 1, Nat.add_comm]
theorem fold_put : ∀ (L made : List Pc), (∀ x ∈ L, ne x) → L.foldl putC made = (marksC L).foldl pushM made
  | [], made, _ => rfl
  | x :: L, made, h => by
    have e : marksC (x :: L) = marks1 x ++ marksC L := by simp [marksC]
    rw [List.foldl_cons, e, List.foldl_append, put_fold (h x (by simp)), fold_put L _ fun y hy => h y (by simp [hy])]
theorem plain_ofM {L : List Pc} (h : ∀ x ∈ L, ne x) : plainC L = ofM (marksC L) := fold_put L [] h
theorem put_mem {made : List Pc} {x y : Pc} (P : Pc → Prop) (hm : ∀ z ∈ made, P z) (hx : P x) (hss : ∀ a b, .sg a ∈ made → P (.sg a) → x = .sg b → P (.sg (a ++ b))) (hcc : ∀ p n q m, P (.cp p n) → x = .cp q m → P (.cp p (n + m))) (hy : y ∈ putC made x) : P y := by
  rcases snoc_cases made with rfl | ⟨init, z, rfl⟩
  · rw [putC_nil] at hy
    rw [List.mem_singleton.mp hy]; exact hx
  · have hi : ∀ w ∈ init, P w := fun w hw => hm w (by simp [hw])
    have hz : P z := hm z (by simp)
    have app : ∀ w, y ∈ init ++ [w] → P w → P y := fun w h hw => by
      rcases List.mem_append.mp h with h | h
      · exact hi y h
      · rw [List.mem_singleton.mp h]; exact hw
    have app2 : y ∈ init ++ [z] ++ [x] → P y := fun h => by
      rcases List.mem_append.mp h with h | h
      · exact app z h hz
      · rw [List.mem_singleton.mp h]; exact hx
    cases z with
    | sg a =>
      cases x with
      | sg b => rw [putC_ss] at hy; exact app _ hy (hss a b (by simp) hz rfl)
      | cp q m => rw [putC_sc] at hy; exact app2 hy
    | cp p n =>
      cases x with
      | sg b => rw [putC_cs] at hy; exact app2 hy
      | cp q m =>
        rw [putC_cc] at hy
        split at hy
        · exact app _ hy (hcc p n q m hz rfl)
        · exact app2 hy
theorem ofM_ne (row : List Mk) : ∀ x ∈ ofM row, ne x := by
  have key : ∀ (row : List Mk) (made : List Pc), (∀ x ∈ made, ne x) → ∀ x ∈ row.foldl pushM made, ne x := by
    intro row
    induction row with
    | nil => intro made h; exact h
    | cons m row ih =>
      intro made h
      rw [List.foldl_cons]
      refine ih _ fun x hx => ?_
      refine put_mem ne h ?_ (fun a b _ ha e => ?_) (fun p n q m ha e => ?_) hx
      · cases m <;> simp [ne, size]
      · simp [ne, size] at ha ⊢; omega
      · simp [ne, size] at ha ⊢; omega
  exact key row [] (by simp)
theorem marks_ofM (row : List Mk) : marksC (ofM row) = row := by
  have key : ∀ (row : List Mk) (made : List Pc), marksC (row.foldl pushM made) = marksC made ++ row := by
    intro row
    induction row with
    | nil => simp
    | cons m row ih =>
      intro made
      rw [List.foldl_cons, ih]
      unfold pushM
      rw [marks_put]
      cases m <;> simp [marks1]
  rw [ofM, key]
  simp [marksC]
theorem plain_idem {L : List Pc} (h : ∀ x ∈ L, ne x) : plainC (plainC L) = plainC L := by
  have e := plain_ofM h
  have h2 : ∀ x ∈ plainC L, ne x := by rw [e]; exact ofM_ne _
  rw [plain_ofM h2, marks_plain, ← e]
/-! what marks make -/
def mkAt (elder : List Nat) : Mk → Option Nat
  | .s c => some c
  | .p n => elder[n]?
def madeM (elder : List Nat) : List Mk → Option (List Nat)
  | [] => some []
  | m :: r => (mkAt elder m).bind fun c => (madeM elder r).map (c :: ·)
theorem madeM_append {elder : List Nat} : ∀ (a b : List Mk), madeM elder (a ++ b) = (madeM elder a).bind fun x => (madeM elder b).map (x ++ ·)
  | [], b => by
    rw [List.nil_append]
    show madeM elder b = (madeM elder b).map fun x => [] ++ x
    cases madeM elder b <;> rfl
  | m :: a, b => by
    show (mkAt elder m).bind (fun c => (madeM elder (a ++ b)).map (c :: ·)) = ((mkAt elder m).bind fun c => (madeM elder a).map (c :: ·)).bind fun x => (madeM elder b).map (x ++ ·)
    rw [madeM_append a b]
    cases mkAt elder m with
    | none => rfl
    | some c =>
      cases madeM elder a with
      | none => rfl
      | some x => cases madeM elder b <;> rfl
theorem madeM_signs {elder : List Nat} : ∀ cs : List Nat, madeM elder (cs.map .s) = some cs
  | [] => rfl
  | c :: cs => by
    rw [List.map_cons]
    unfold madeM
    rw [madeM_signs cs]
    rfl
theorem madeM_places {elder : List Nat} : ∀ (n p : Nat), madeM elder ((List.range n).map fun k => .p (p + k)) = if p + n ≤ elder.length ∨ n = 0 then some ((elder.drop p).take n) else none
  | 0, p => by simp [madeM]
  | n + 1, p => by
    rw [List.range_succ_eq_map, List.map_cons, List.map_map]
    have e : ((List.range n).map ((fun k => Mk.p (p + k)) ∘ Nat.succ)) = (List.range n).map fun k => Mk.p (p + 1 + k) := by
      apply List.map_congr_left
      intro k _
      simp
      omega
    rw [e]
    unfold madeM
    rw [madeM_places n (p + 1)]
    simp only [mkAt, Nat.add_zero]
    by_cases h : p < elder.length
    · rw [List.getElem?_eq_getElem h, List.drop_eq_getElem_cons h, List.take_succ_cons]
      by_cases h2 : p + (n + 1) ≤ elder.length
      · rw [if_pos (.inl (by omega)), if_pos (.inl h2)]
        rfl
      · rw [if_neg (by omega), if_neg (by omega)]
        rfl
    · rw [List.getElem?_eq_none (show elder.length ≤ p by omega), if_neg (show ¬ (p + (n + 1) ≤ elder.length ∨ n + 1 = 0) by omega)]
      rfl
theorem madeC_marks {elder : List Nat} : ∀ L : List Pc, (∀ x ∈ L, ne x) → madeC elder L = madeM elder (marksC L)
  | [], _ => rfl
  | x :: L, h => by
    have e : marksC (x :: L) = marks1 x ++ marksC L := by simp [marksC]
    have ih := madeC_marks (elder := elder) L fun y hy => h y (by simp [hy])
    rw [e, madeM_append, ← ih]
    unfold madeC
    cases x with
    | sg cs =>
      simp only [marks1, madeM_signs, madeP]
      cases madeP elder L <;> simp
    | cp p n =>
      have hn : 1 ≤ n := h (.cp p n) (by simp)
      simp only [marks1, madeM_places, madeP]
      by_cases h2 : p + n ≤ elder.length
      · rw [if_pos h2, if_pos (.inl h2)]
        cases madeP elder L <;> simp
      · rw [if_neg h2, if_neg (by omega)]
        rfl
theorem madeM_len {elder : List Nat} : ∀ {row : List Mk} {cs : List Nat}, madeM elder row = some cs → cs.length = row.length
  | [], cs, h => by cases h; rfl
  | m :: r, cs, h => by
    unfold madeM at h
    cases e : mkAt elder m with
    | none => rw [e] at h; cases h
    | some c =>
      rw [e] at h
      cases e2 : madeM elder r with
      | none => rw [e2] at h; cases h
      | some x =>
        rw [e2] at h
        cases h
        simp [madeM_len e2]
theorem made_plain {elder : List Nat} {L : List Pc} (h : ∀ x ∈ L, ne x) : madeC elder (plainC L) = madeC elder L := by
  have h2 : ∀ x ∈ plainC L, ne x := by rw [plain_ofM h]; exact ofM_ne _
  rw [madeC_marks _ h2, madeC_marks _ h, marks_plain]
/-! the cost -/
theorem cost_append (a b : List Pc) : costC (a ++ b) = costC a + costC b := by simp [costC]
theorem cost_put (made : List Pc) (x : Pc) : costC (putC made x) ≤ costC made + cost1 x := by
  have one : ∀ y : Pc, costC [y] = cost1 y := fun y => by simp [costC]
  rcases snoc_cases made with rfl | ⟨init, y, rfl⟩
  · rw [putC_nil, one]; simp [costC]
  · cases y with
    | sg a =>
      cases x with
      | sg b => rw [putC_ss, cost_append, cost_append, one, one]; simp [cost1]; omega
      | cp q m => rw [putC_sc, cost_append, one]; simp
    | cp p n =>
      cases x with
      | sg b => rw [putC_cs, cost_append, one]; simp
      | cp q m =>
        rw [putC_cc]
        split
        · rw [cost_append, cost_append, one, one]; simp [cost1]
        · rw [cost_append, one]; simp
theorem cost_plain (L : List Pc) : costC (plainC L) ≤ costC L := by
  have key : ∀ (L made : List Pc), costC (L.foldl putC made) ≤ costC made + costC L := by
    intro L
    induction L with
    | nil => intro made; simp [costC]
    | cons x L ih =>
      intro made
      rw [List.foldl_cons]
      have h1 := ih (putC made x)
      have h2 := cost_put made x
      have : costC (x :: L) = cost1 x + costC L := by simp [costC]
      omega
  have := key L []
  simpa [costC, plainC] using this
/-! a plain letter is a letter -/
def okK (k : Nat) : Pc → Prop
  | .sg cs => 1 ≤ cs.length ∧ cs.length ≤ k ∧ cs.all isSign = true
  | .cp _ n => 1 ≤ n
theorem okK.mono {k k' : Nat} (h : k ≤ k') {x : Pc} (hx : okK k x) : okK k' x := by
  cases x with
  | sg cs => exact ⟨hx.1, by have := hx.2.1; omega, hx.2.2⟩
  | cp p n => exact hx
theorem okK.ok {k : Nat} (h : k ≤ 2000) {x : Pc} (hx : okK k x) : okPc x := by
  cases x with
  | sg cs => exact ⟨hx.1, by have := hx.2.1; omega, hx.2.2⟩
  | cp p n => exact hx
theorem okPc.ne {x : Pc} (h : okPc x) : ne x := by
  cases x with
  | sg cs => exact h.1
  | cp p n => exact h
theorem fold_okK : ∀ (L made : List Pc) (k : Nat), (∀ x ∈ made, okK k x) → (∀ x ∈ L, okPc x) → ∀ x ∈ L.foldl putC made, okK (k + signsLen L) x
  | [], made, k, h, _ => fun x hx => (h x hx).mono (by simp [signsLen])
  | y :: L, made, k, h, hL => by
    rw [List.foldl_cons]
    have hy := hL y (by simp)
    have hL2 : ∀ x ∈ L, okPc x := fun x hx => hL x (by simp [hx])
    cases y with
    | sg b =>
      have hb : okK (k + b.length) (.sg b) := ⟨hy.1, by omega, hy.2.2⟩
      have hp : ∀ x ∈ putC made (.sg b), okK (k + b.length) x := fun x hx => by
        refine put_mem (x := .sg b) (okK (k + b.length)) (fun z hz => (h z hz).mono (by omega)) hb (fun a c ha _ e => ?_) (fun p n q m _ e => by cases e) hx
        cases e
        have h1 := h _ ha
        refine ⟨?_, ?_, ?_⟩
        · have := h1.1; simp; omega
        · have := h1.2.1; simp; omega
        · rw [List.all_append, h1.2.2, hy.2.2]; rfl
      have := fold_okK L (putC made (.sg b)) (k + b.length) hp hL2
      intro x hx
      exact (this x hx).mono (by simp only [signsLen]; omega)
    | cp q m =>
      have hq : okK k (.cp q m) := hy
      have hp : ∀ x ∈ putC made (.cp q m), okK k x := fun x hx => by
        refine put_mem (x := .cp q m) (okK k) h hq (fun a c _ _ e => by cases e) (fun p n q' m' ha e => ?_) hx
        have : 1 ≤ n := ha
        show 1 ≤ n + m'
        omega
      have := fold_okK L (putC made (.cp q m)) k hp hL2
      intro x hx
      exact (this x hx).mono (by simp [signsLen])
theorem plain_ok {L : List Pc} (h : ∀ x ∈ L, okPc x) (hs : signsLen L ≤ 2000) : ∀ x ∈ plainC L, okPc x := fun x hx => (fold_okK L [] 0 (by simp) h x hx).ok (by omega)
theorem put_len (made : List Pc) (x : Pc) : (putC made x).length ≤ made.length + 1 := by
  rcases snoc_cases made with rfl | ⟨init, y, rfl⟩
  · simp [putC_nil]
  · cases y <;> cases x
    · simp [putC_ss]
    · simp [putC_sc]
    · simp [putC_cs]
    · rw [putC_cc]
      split <;> simp
theorem plain_len (L : List Pc) : (plainC L).length ≤ L.length := by
  have key : ∀ (L made : List Pc), (L.foldl putC made).length ≤ made.length + L.length := by
    intro L
    induction L with
    | nil => intro made; simp
    | cons x L ih =>
      intro made
      rw [List.foldl_cons]
      have h1 := ih (putC made x)
      have h2 := put_len made x
      simp only [List.length_cons]
      omega
  have := key L []
  simpa [plainC] using this
theorem signsLen_le (L : List Pc) : signsLen L ≤ (marksC L).length := by
  induction L with
  | nil => simp [signsLen]
  | cons x L ih =>
    have e : marksC (x :: L) = marks1 x ++ marksC L := by simp [marksC]
    rw [e, List.length_append, marks1_len]
    cases x with
    | sg cs => simp only [signsLen, size]; omega
    | cp p n => simp only [signsLen, size]; omega
end DD
/-! least letters -/
namespace DD
open PySem PySem.Spec L2
def b1t_p_longest : CF := (cAnd (c2 gLt (c2 gAdd (cV 2) (cV 3)) (c1 gLen (cV 1))) (c2 gInS (cSl (cV 1) (some (cV 2)) (some (c2 gAdd (c2 gAdd (cV 2) (cV 3)) (cK (.i 1))))) (cV 0)))
def b1_p_longest : CS := (cAsg 3 (c2 gAdd (cV 3) (cK (.i 1))))
def b_p_longest : CS := (cSeq (cAsg 3 (cK (.i 0)))
    (cSeq (cWh 100000 b1t_p_longest b1_p_longest)
    (cRetV 3)))
def p_longest : List PV → Option ER := fnD 3 4 b_p_longest
def b1t_p_least_of : CF := (c2 gLt (cV 3) (c1 gLen (cV 1)))
def b1_p_least_of : CS := (cSeq (cAsg 4 (cCall p_longest [(cV 0), (cV 1), (cV 3)]))
    (cIf (c2 gEq (cV 4) (cK (.i 0)))
    (cSeq (cApp 2 (cTup [(cK (.s [115, 105, 103, 110, 115])), (c2 gIdx (cV 1) (cV 3))]))
    (cAsg 3 (c2 gAdd (cV 3) (cK (.i 1)))))
    (cSeq (cApp 2 (cTup [(cK (.s [99, 111, 112, 121])), (cM1 gFind (cV 0) (cSl (cV 1) (some (cV 3)) (some (c2 gAdd (cV 3) (cV 4))))), (cV 4)]))
    (cAsg 3 (c2 gAdd (cV 3) (cV 4))))))
def b_p_least_of : CS := (cSeq (cAsgM 2 (cLst []))
    (cSeq (cAsg 3 (cK (.i 0)))
    (cSeq (cWh 100000 b1t_p_least_of b1_p_least_of)
    (cFrz 2 (cRet (cCall p_plain_of [(cV 2)]))))))
def p_least_of : List PV → Option ER := fnD 2 5 b_p_least_of
def b_p_least : CS := (cSeq (cDrop (cCall p_need_text [(cV 0)]))
    (cSeq (cDrop (cCall p_need_text [(cV 1)]))
    (cRet (cCall p_least_of [(cV 0), (cV 1)]))))
def p_least : List PV → Option ER := fnD 2 2 b_p_least
/-! ### a text in a text -/
theorem occ_iff {txt sub : List Nat} {i : Nat} : occ txt sub i = true ↔ i + sub.length ≤ txt.length ∧ (txt.drop i).take sub.length = sub := by
  unfold occ
  rw [Bool.and_eq_true, decide_eq_true_eq, beq_iff_eq]
theorem inC_iff {txt sub : List Nat} : inC txt sub = true ↔ ∃ i, occ txt sub i = true := by
  unfold inC firstOcc
  rw [List.find?_isSome]
  constructor
  · rintro ⟨i, _, h⟩
    exact ⟨i, h⟩
  · rintro ⟨i, h⟩
    have := (occ_iff.mp h).1
    exact ⟨i, List.mem_range.mpr (by omega), h⟩
theorem occ_sub {txt r : List Nat} {i m k a : Nat} (h : occ txt (r.take m) i = true) (hm : m ≤ r.length) (hk : a + k ≤ m) : occ txt ((r.drop a).take k) (i + a) = true := by
  rw [occ_iff] at h ⊢
  obtain ⟨h1, h2⟩ := h
  have l1 : (r.take m).length = m := by simp; omega
  have l2 : ((r.drop a).take k).length = k := by simp; omega
  rw [l1] at h1 h2
  rw [l2]
  refine ⟨by omega, ?_⟩
  have e : ((txt.drop i).take m).drop a = (r.take m).drop a := by rw [h2]
  rw [List.drop_take, List.drop_drop, List.drop_take] at e
  have e2 := congrArg (List.take k) e
  rw [List.take_take, List.take_take, Nat.min_eq_left (by omega)] at e2
  exact e2
theorem in_sub {txt r : List Nat} {m k a : Nat} (h : inC txt (r.take m) = true) (hm : m ≤ r.length) (hk : a + k ≤ m) : inC txt ((r.drop a).take k) = true := by
  obtain ⟨i, hi⟩ := inC_iff.mp h
  exact inC_iff.mpr ⟨i + a, occ_sub hi hm hk⟩
/-! ### the longest stretch -/
def longGo (elder r : List Nat) : Nat → Nat → Nat
  | 0, k => k
  | n + 1, k => if inC elder (r.take (k + 1)) = true then longGo elder r n (k + 1) else k
def longC (elder r : List Nat) : Nat := longGo elder r r.length 0
theorem longGo_spec {elder r : List Nat} : ∀ (n k : Nat), k + n = r.length → (k = 0 ∨ inC elder (r.take k) = true) →
    k ≤ longGo elder r n k ∧ longGo elder r n k ≤ r.length ∧ (longGo elder r n k = 0 ∨ inC elder (r.take (longGo elder r n k)) = true) ∧ (longGo elder r n k < r.length → inC elder (r.take (longGo elder r n k + 1)) = false)
  | 0, k, h, hk => ⟨Nat.le_refl _, by unfold longGo; omega, hk, fun hl => by unfold longGo at hl; omega⟩
  | n + 1, k, h, hk => by
    unfold longGo
    split
    · rename_i hin
      have ih := longGo_spec n (k + 1) (by omega) (.inr hin)
      exact ⟨by omega, ih.2⟩
    · rename_i hin
      exact ⟨Nat.le_refl _, by omega, hk, fun _ => by simpa using hin⟩
theorem long_spec (elder r : List Nat) : longC elder r ≤ r.length ∧ (longC elder r = 0 ∨ inC elder (r.take (longC elder r)) = true) ∧ (longC elder r < r.length → inC elder (r.take (longC elder r + 1)) = false) := by
  have := longGo_spec (elder := elder) (r := r) r.length 0 (by omega) (.inl rfl)
  exact this.2
/-- a stretch from here on stands in the elder text just if it is no longer -/
theorem in_long {elder r : List Nat} {m : Nat} (hm : 1 ≤ m) (hr : m ≤ r.length) : inC elder (r.take m) = true ↔ m ≤ longC elder r := by
  obtain ⟨h1, h2, h3⟩ := long_spec elder r
  constructor
  · intro h
    by_cases hl : m ≤ longC elder r
    · exact hl
    · have hf := h3 (by omega)
      have ht := in_sub (a := 0) (k := longC elder r + 1) h hr (by omega)
      rw [List.drop_zero, hf] at ht
      cases ht
  · intro h
    rcases h2 with h2 | h2
    · omega
    · have := in_sub (a := 0) (k := m) h2 h1 (by omega)
      rwa [List.drop_zero] at this
theorem cut_add {cs : List Nat} {p : Nat} {a : Int} {n : Nat} (h : a = (p : Int) + n) : cutP cs (some (p : Int)) (some a) = (cs.drop p).take n := by
  subst h
  rw [cutP_nn (by omega) (by omega)]
  congr 1 <;> omega
theorem long_loop {elder newer : List Nat} (hb : newer.length ≤ big) {place : Nat} : ∀ (n k fuel : Nat), place + k + n = newer.length → n < fuel →
    whGo b1t_p_longest b1_p_longest fuel [.d (.s elder), .d (.s newer), .d (.i place), .d (.i k)] = some (.nx [.d (.s elder), .d (.s newer), .d (.i place), .d (.i (longGo elder (newer.drop place) n k))])
  | 0, k, fuel, h, hf => by
    obtain ⟨g, rfl⟩ : ∃ g, fuel = g + 1 := ⟨fuel - 1, by omega⟩
    rw [whGo_succ]
    simp [b1t_p_longest, hb, show ¬ ((place : Int) + k < newer.length) by omega, longGo]
  | n + 1, k, fuel, h, hf => by
    obtain ⟨g, rfl⟩ : ∃ g, fuel = g + 1 := ⟨fuel - 1, by omega⟩
    rw [whGo_succ]
    have ih := long_loop (elder := elder) hb (place := place) n (k + 1) g (by omega) (by omega)
    have hcut : cutP newer (some (place : Int)) (some ((place : Int) + k + 1)) = (newer.drop place).take (k + 1) := cut_add (p := place) (n := k + 1) (by omega)
    unfold longGo
    cases hin : inC elder ((newer.drop place).take (k + 1)) with
    | true =>
      simp [b1t_p_longest, b1_p_longest, hb, show (place : Int) + k < newer.length by omega, hcut, hin]
      rw [← ih]
      congr 1
    | false =>
      simp [b1t_p_longest, hb, show (place : Int) + k < newer.length by omega, hcut, hin]
theorem p_longest_eq {elder newer : List Nat} (hb : newer.length ≤ 10000) {place : Nat} (hp : place ≤ newer.length) : p_longest [.s elder, .s newer, .i place] = some (.d (.i (longC elder (newer.drop place)))) := by
  unfold p_longest
  rw [fnD3]
  have e := long_loop (elder := elder) (newer := newer) (by unfold big; omega) (place := place) (newer.length - place) 0 100000 (by omega) (by omega)
  simp only [show ((0 : Nat) : Int) = 0 from rfl] at e
  simp [b_p_longest, e, longC]
/-! ### the letter, place by place -/
def findN (elder s : List Nat) : Nat := (firstOcc elder s).getD 0
def greedy (elder : List Nat) : List Nat → List Pc
  | [] => []
  | c :: t => if h : longC elder (c :: t) = 0 then .sg [c] :: greedy elder t else .cp (findN elder ((c :: t).take (longC elder (c :: t)))) (longC elder (c :: t)) :: greedy elder ((c :: t).drop (longC elder (c :: t)))
termination_by r => r.length
decreasing_by
  · simp
  · simp; omega
theorem greedy_nil {elder : List Nat} : greedy elder [] = [] := by rw [greedy]
theorem greedy_0 {elder r : List Nat} (h : longC elder r = 0) (hr : 0 < r.length) : greedy elder r = .sg [r[0]] :: greedy elder (r.drop 1) := by
  cases r with
  | nil => simp at hr
  | cons c t => rw [greedy, dif_pos h]; rfl
theorem greedy_m {elder r : List Nat} (h : longC elder r ≠ 0) : greedy elder r = .cp (findN elder (r.take (longC elder r))) (longC elder r) :: greedy elder (r.drop (longC elder r)) := by
  cases r with
  | nil =>
    have := (long_spec elder []).1
    simp at this
    exact absurd this h
  | cons c t => rw [greedy, dif_neg h]
/-- induction along the walk -/
theorem greedy_ind {elder : List Nat} {P : List Nat → Prop} (h0 : P []) (hs : ∀ r, 0 < r.length → longC elder r = 0 → P (r.drop 1) → P r) (hc : ∀ r, longC elder r ≠ 0 → P (r.drop (longC elder r)) → P r) : ∀ r, P r := by
  have key : ∀ n r, r.length ≤ n → P r := by
    intro n
    induction n with
    | zero =>
      intro r h
      have : r = [] := List.length_eq_zero_iff.mp (by omega)
      subst this
      exact h0
    | succ n ih =>
      intro r h
      cases r with
      | nil => exact h0
      | cons c t =>
        by_cases hl : longC elder (c :: t) = 0
        · exact hs _ (by simp) hl (ih _ (by simp at h ⊢; omega))
        · exact hc _ hl (ih _ (by simp at h ⊢; omega))
  exact fun r => key r.length r (Nat.le_refl _)
theorem find_spec {elder s : List Nat} (h : inC elder s = true) : occ elder s (findN elder s) = true ∧ findI elder s = (findN elder s : Int) := by
  unfold inC at h
  unfold findN findI
  cases e : firstOcc elder s with
  | none => rw [e] at h; cases h
  | some i => exact ⟨List.find?_some e, rfl⟩
theorem least_turn {elder newer : List Nat} (hb : newer.length ≤ 10000) {made : List PV} (hm : made.length < 1000000) {place : Nat} (hp : place < newer.length) {s4 : Sl1} :
    b1_p_least_of [.d (.s elder), .d (.s newer), .m made, .d (.i place), s4] = if longC elder (newer.drop place) = 0
      then some (.nx [.d (.s elder), .d (.s newer), .m (made ++ [pcPV (.sg [newer[place]])]), .d (.i (place + 1 : Nat)), .d (.i 0)])
      else some (.nx [.d (.s elder), .d (.s newer), .m (made ++ [pcPV (.cp (findN elder ((newer.drop place).take (longC elder (newer.drop place)))) (longC elder (newer.drop place)))]), .d (.i (place + longC elder (newer.drop place) : Nat)), .d (.i (longC elder (newer.drop place)))]) := by
  have hbm : made.length < big := by unfold big; omega
  have hbn : newer.length ≤ big := by unfold big; omega
  have hl := p_longest_eq (elder := elder) hb (place := place) (by omega)
  have hsp := long_spec elder (newer.drop place)
  generalize hM : longC elder (newer.drop place) = M at *
  by_cases h : M = 0
  · subst h
    have ix : gIdx (.s newer) (.i (place : Int)) = some (.d (.s [newer[place]])) := by
      rw [gIdx_s, if_pos hbn, atI_nn (by omega)]
      simp [hp]
    simp [-gIdx_s, b1_p_least_of, hl, ix, hbm]
  · have hz : ((M : Int) == 0) = false := by rw [beq_eq_false_iff_ne]; omega
    have hin : inC elder ((newer.drop place).take M) = true := by
      rcases hsp.2.1 with h2 | h2
      · exact absurd h2 h
      · exact h2
    have hf := (find_spec hin).2
    have hcut : cutP newer (some (place : Int)) (some ((place : Int) + M)) = (newer.drop place).take M := cut_add rfl
    simp [b1_p_least_of, hl, hz, h, hbn, hcut, hf, hbm]
theorem least_loop {elder newer : List Nat} (hb : newer.length ≤ 10000) : ∀ (r : List Nat) (made : List Pc) (place fuel : Nat) (s4 : Sl1), r = newer.drop place → place ≤ newer.length → made.length + r.length < 1000000 → r.length < fuel →
    ∃ s4', whGo b1t_p_least_of b1_p_least_of fuel [.d (.s elder), .d (.s newer), .m (letPV made), .d (.i place), s4] = some (.nx [.d (.s elder), .d (.s newer), .m (letPV (made ++ greedy elder r)), .d (.i newer.length), s4']) := by
  have hbn : newer.length ≤ big := by unfold big; omega
  intro r
  induction r using greedy_ind (elder := elder) with
  | h0 =>
    intro made place fuel s4 hr hp hm hf
    obtain ⟨g, rfl⟩ : ∃ g, fuel = g + 1 := ⟨fuel - 1, by simp at hf; omega⟩
    have hpl : place = newer.length := by
      have := congrArg List.length hr
      simp at this
      omega
    subst hpl
    refine ⟨s4, ?_⟩
    rw [whGo_succ, greedy_nil]
    simp [b1t_p_least_of, hbn]
  | hs r hlen hl ih =>
    intro made place fuel s4 hr hp hm hf
    obtain ⟨g, rfl⟩ : ∃ g, fuel = g + 1 := ⟨fuel - 1, by omega⟩
    have hpl : place < newer.length := by rw [hr] at hlen; simp at hlen; omega
    have ht := least_turn (elder := elder) hb (made := letPV made) (by simp; omega) hpl (s4 := s4)
    rw [← hr, if_pos hl] at ht
    obtain ⟨s4', e⟩ := ih (made ++ [.sg [newer[place]]]) (place + 1) g (.d (.i 0)) (by rw [hr, List.drop_drop]) (by omega) (by simp; omega) (by simp; omega)
    refine ⟨s4', ?_⟩
    have hr0 : r[0] = newer[place] := by
      simp only [hr, List.getElem_drop]
      congr 1
    rw [whGo_succ, greedy_0 hl hlen, hr0]
    have hc : b1t_p_least_of [.d (.s elder), .d (.s newer), .m (letPV made), .d (.i place), s4] = some (.d (.b true)) := by simp [b1t_p_least_of, hbn, hpl]
    have hm2 : letPV made ++ [pcPV (.sg [newer[place]])] = letPV (made ++ [.sg [newer[place]]]) := by simp [letPV]
    rw [hc, wh_t, ht, tn_nx, hm2]
    rw [List.append_assoc] at e
    exact e
  | hc r hl ih =>
    intro made place fuel s4 hr hp hm hf
    obtain ⟨g, rfl⟩ : ∃ g, fuel = g + 1 := ⟨fuel - 1, by omega⟩
    have hsp := (long_spec elder r).1
    have hpl : place < newer.length := by
      rw [hr] at hsp
      simp at hsp
      rw [hr] at hl
      omega
    have ht := least_turn (elder := elder) hb (made := letPV made) (by simp; omega) hpl (s4 := s4)
    rw [← hr, if_neg hl] at ht
    have hrl : r.length = newer.length - place := by rw [hr]; simp
    obtain ⟨s4', e⟩ := ih (made ++ [.cp (findN elder (r.take (longC elder r))) (longC elder r)]) (place + longC elder r) g (.d (.i (longC elder r))) (by rw [hr, List.drop_drop, ← hr]) (by omega) (by simp; omega) (by simp; omega)
    refine ⟨s4', ?_⟩
    rw [whGo_succ, greedy_m hl]
    have hc : b1t_p_least_of [.d (.s elder), .d (.s newer), .m (letPV made), .d (.i place), s4] = some (.d (.b true)) := by simp [b1t_p_least_of, hbn, hpl]
    have hm2 : letPV made ++ [pcPV (.cp (findN elder (r.take (longC elder r))) (longC elder r))] = letPV (made ++ [.cp (findN elder (r.take (longC elder r))) (longC elder r)]) := by simp [letPV]
    rw [hc, wh_t, ht, tn_nx, hm2]
    rw [List.append_assoc] at e
    exact e
theorem greedy_len (elder r : List Nat) : (greedy elder r).length ≤ r.length := by
  induction r using greedy_ind (elder := elder) with
  | h0 => rw [greedy_nil]; simp
  | hs r hlen hl ih => rw [greedy_0 hl hlen]; simp at ih ⊢; omega
  | hc r hl ih =>
    rw [greedy_m hl]
    have := (long_spec elder r).1
    simp at ih ⊢
    omega
theorem greedy_signs (elder r : List Nat) : signsLen (greedy elder r) ≤ r.length := by
  induction r using greedy_ind (elder := elder) with
  | h0 => rw [greedy_nil]; simp [signsLen]
  | hs r hlen hl ih => rw [greedy_0 hl hlen]; simp [signsLen] at ih ⊢; omega
  | hc r hl ih =>
    rw [greedy_m hl]
    simp [signsLen] at ih ⊢
    omega
theorem p_least_of_eq {elder newer : List Nat} (hb : newer.length ≤ 10000) : p_least_of [.s elder, .s newer] = some (.f (letPV (plainC (greedy elder newer)))) := by
  unfold p_least_of
  rw [fnD2]
  obtain ⟨s4, e⟩ := least_loop (elder := elder) hb newer [] 0 100000 .u rfl (by omega) (by simp; omega) (by omega)
  have hp := p_plain_of_eq (L := greedy elder newer) (by have := greedy_len elder newer; omega) (by have := greedy_signs elder newer; unfold big; omega)
  simp only [show ((0 : Nat) : Int) = 0 from rfl, List.nil_append, show letPV [] = [] from rfl] at e
  generalize letPV (greedy elder newer) = G at *
  simp [b_p_least_of, e, hp]
theorem p_least_eq {elder newer : List Nat} (he : okText elder) (hn : okText newer) : p_least [.s elder, .s newer] = some (.f (letPV (plainC (greedy elder newer)))) := by
  unfold p_least
  rw [fnD2]
  simp [b_p_least, p_need_text_ok he, p_need_text_ok hn, p_least_of_eq (elder := elder) (show newer.length ≤ 10000 by have := hn.1; omega)]
/-! ### what it makes -/
theorem greedy_ok {elder r : List Nat} (h : r.all isSign = true) : ∀ x ∈ greedy elder r, okPc x := by
  revert h
  induction r using greedy_ind (elder := elder) with
  | h0 => intro _; rw [greedy_nil]; simp
  | hs r hlen hl ih =>
    intro h
    rw [greedy_0 hl hlen]
    intro x hx
    rcases List.mem_cons.mp hx with hx | hx
    · subst hx
      refine ⟨by simp, by simp, ?_⟩
      simp only [List.all_cons, List.all_nil, Bool.and_true]
      exact List.all_eq_true.mp h _ (List.getElem_mem hlen)
    · exact ih (List.all_eq_true.mpr fun c hc => List.all_eq_true.mp h c (List.mem_of_mem_drop hc)) x hx
  | hc r hl ih =>
    intro h
    rw [greedy_m hl]
    intro x hx
    rcases List.mem_cons.mp hx with hx | hx
    · subst hx
      show 1 ≤ longC elder r
      omega
    · exact ih (List.all_eq_true.mpr fun c hc => List.all_eq_true.mp h c (List.mem_of_mem_drop hc)) x hx
theorem greedy_made (elder r : List Nat) : madeC elder (greedy elder r) = some r := by
  induction r using greedy_ind (elder := elder) with
  | h0 => rw [greedy_nil]; rfl
  | hs r hlen hl ih =>
    rw [greedy_0 hl hlen]
    unfold madeC at ih ⊢
    rw [madeP]
    cases e : madeP elder (greedy elder (r.drop 1)) with
    | none => rw [e] at ih; cases ih
    | some ps =>
      rw [e] at ih
      simp at ih ⊢
      rw [ih]
      cases r with
      | nil => simp at hlen
      | cons c t => rfl
  | hc r hl ih =>
    rw [greedy_m hl]
    obtain ⟨h1, h2, _⟩ := long_spec elder r
    have hin : inC elder (r.take (longC elder r)) = true := by
      rcases h2 with h2 | h2
      · exact absurd h2 hl
      · exact h2
    obtain ⟨o1, o2⟩ := occ_iff.mp (find_spec hin).1
    have hlt : (r.take (longC elder r)).length = longC elder r := by simp; omega
    rw [hlt] at o1 o2
    unfold madeC at ih ⊢
    rw [madeP, if_pos o1]
    cases e : madeP elder (greedy elder (r.drop (longC elder r))) with
    | none => rw [e] at ih; cases ih
    | some ps =>
      rw [e] at ih
      simp at ih ⊢
      rw [ih, o2, List.take_append_drop]
end DD
/-! letters that the laws draw -/
namespace DD
open PySem PySem.Spec L2
def b1_q_letter : CS := (cSeq (cAsg 6 (c2 gAdd (c2 gAdd (cV 1) (cK (.i 1))) (c2 gMul (cK (.i 4)) (cV 5))))
    (cSeq (cAsg 7 (cCall q_text [(cV 0), (cV 6), (cK (.i 3))]))
    (cIf (cOr (c2 gEq (cV 2) (cK (.i 0))) (c2 gEq (cCall q_mixed [(cV 0), (c2 gAdd (cV 6) (cK (.i 3))), (cK (.i 3))]) (cK (.i 0))))
    (cApp 4 (cTup [(cK (.s [115, 105, 103, 110, 115])), (c2 gAdd (cV 7) (cK (.s [98])))]))
    (cSeq (cAsg 8 (cCall q_mixed [(cV 0), (c2 gAdd (cV 6) (cK (.i 1))), (cV 2)]))
    (cSeq (cIf (cAnd (c2 gNe (cV 4) (cLst [])) (cAnd (c2 gEq (c2 gIdx (c2 gIdx (cV 4) (c1 gNeg (cK (.i 1)))) (cK (.i 0))) (cK (.s [99, 111, 112, 121]))) (c2 gLt (c2 gAdd (c2 gIdx (c2 gIdx (cV 4) (c1 gNeg (cK (.i 1)))) (cK (.i 1))) (c2 gIdx (c2 gIdx (cV 4) (c1 gNeg (cK (.i 1)))) (cK (.i 2)))) (cV 2))))
    (cAsg 8 (c2 gIdx (cLst [(cV 8), (c2 gAdd (c2 gIdx (c2 gIdx (cV 4) (c1 gNeg (cK (.i 1)))) (cK (.i 1))) (c2 gIdx (c2 gIdx (cV 4) (c1 gNeg (cK (.i 1)))) (cK (.i 2))))]) (cCall q_mixed [(cV 0), (cV 6), (cK (.i 2))])))
    cNext)
    (cApp 4 (cTup [(cK (.s [99, 111, 112, 121])), (cV 8), (c2 gAdd (cK (.i 1)) (cCall q_mixed [(cV 0), (c2 gAdd (cV 6) (cK (.i 2))), (c2 gSub (cV 2) (cV 8))]))])))))))
def b_q_letter : CS := (cSeq (cAsgM 4 (cLst []))
    (cSeq (cFor (iR1 (cCall q_mixed [(cV 0), (cV 1), (c2 gAdd (cV 3) (cK (.i 1)))])) (tgN 5) b1_q_letter)
    (cRetV 4)))
def q_letter : List PV → Option ER := fnD 4 9 b_q_letter
/-- the next piece -/
def firstC (ns : List Int) (at_ : Nat) (size : Nat) (made : List Pc) (k : Nat) : Nat :=
  let f := (mixed ns ((at_ + 1 + 4 * k : Nat) + 1) size).toNat
  match made.getLast? with
  | some (.cp p n) => if p + n < size then [f, p + n].getD (mixed ns (at_ + 1 + 4 * k : Nat) 2).toNat 0 else f
  | _ => f
def stepC (ns : List Int) (at_ : Nat) (size : Nat) (made : List Pc) (k : Nat) : Pc :=
  if size = 0 ∨ mixed ns ((at_ + 1 + 4 * k : Nat) + 3) 3 = 0 then .sg (text ns (at_ + 1 + 4 * k : Nat) 3 ++ [98])
  else .cp (firstC ns at_ size made k) (1 + (mixed ns ((at_ + 1 + 4 * k : Nat) + 2) ((size : Int) - firstC ns at_ size made k)).toNat)
def letterGo (ns : List Int) (at_ size n : Nat) : List Pc := (List.range n).foldl (fun made k => made ++ [stepC ns at_ size made k]) []
def letterC (ns : List Int) (at_ size most : Nat) : List Pc := letterGo ns at_ size (mixed ns at_ ((most : Int) + 1)).toNat
theorem letterGo_succ {ns : List Int} {at_ size n : Nat} : letterGo ns at_ size (n + 1) = letterGo ns at_ size n ++ [stepC ns at_ size (letterGo ns at_ size n) n] := by
  simp [letterGo, List.range_succ]
theorem letterGo_len {ns : List Int} {at_ size : Nat} : ∀ n, (letterGo ns at_ size n).length = n
  | 0 => rfl
  | n + 1 => by rw [letterGo_succ]; simp [letterGo_len n]
/-- a piece within a text of this size -/
def okL (size : Nat) : Pc → Prop
  | .sg cs => 1 ≤ cs.length ∧ cs.length ≤ 4 ∧ cs.all isSign = true
  | .cp p n => 1 ≤ n ∧ p + n ≤ size
theorem okL.ok {size : Nat} {x : Pc} (h : okL size x) : okPc x := by
  cases x with
  | sg cs => exact ⟨h.1, by have := h.2.1; omega, h.2.2⟩
  | cp p n => exact h.1
theorem firstC_lt {ns : List Int} {at_ size : Nat} {made : List Pc} {k : Nat} (hs : 0 < size) : firstC ns at_ size made k < size := by
  have h1 := mixed_nn (ns := ns) (k := (at_ + 1 + 4 * k : Nat) + 1) (many := size) (by omega)
  have h2 := mixed_nn (ns := ns) (k := (at_ + 1 + 4 * k : Nat)) (many := 2) (by omega)
  have h0 : (mixed ns ((at_ + 1 + 4 * k : Nat) + 1) size).toNat < size := by omega
  unfold firstC
  generalize at_ + 1 + 4 * k = pl at *
  dsimp only
  split
  · split
    · rename_i p n _ h
      have e : (mixed ns (pl : Nat) 2).toNat = 0 ∨ (mixed ns (pl : Nat) 2).toNat = 1 := by omega
      rcases e with e | e <;> rw [e] <;> simp [h, h0]
    · exact h0
  · exact h0
theorem stepC_ok {ns : List Int} {at_ size : Nat} {made : List Pc} {k : Nat} : okL size (stepC ns at_ size made k) := by
  unfold stepC
  split
  · have h1 := text_len (ns := ns) (at_ := (at_ + 1 + 4 * k : Nat)) (most := 3) (by decide)
    have h2 := text_ok (ns := ns) (at_ := (at_ + 1 + 4 * k : Nat)) (most := 3)
    generalize at_ + 1 + 4 * k = pl at *
    refine ⟨by simp, ?_, ?_⟩
    · simp
      omega
    · rw [List.all_append, h2]
      rfl
  · rename_i h
    have hs : 0 < size := by
      rcases Nat.eq_zero_or_pos size with e | e
      · exact absurd (.inl e) h
      · exact e
    have hf := firstC_lt (ns := ns) (at_ := at_) (made := made) (k := k) hs
    have h1 := mixed_nn (ns := ns) (k := (at_ + 1 + 4 * k : Nat) + 2) (many := (size : Int) - firstC ns at_ size made k) (by omega)
    exact ⟨by omega, by omega⟩
theorem letterGo_ok {ns : List Int} {at_ size : Nat} : ∀ n, ∀ x ∈ letterGo ns at_ size n, okL size x
  | 0, x, h => by simp [letterGo] at h
  | n + 1, x, h => by
    rw [letterGo_succ] at h
    rcases List.mem_append.mp h with h | h
    · exact letterGo_ok n x h
    · rw [List.mem_singleton.mp h]; exact stepC_ok
theorem letterC_len {ns : List Int} {at_ size most : Nat} : (letterC ns at_ size most).length ≤ most := by
  have := mixed_nn (ns := ns) (k := at_) (many := (most : Int) + 1) (by omega)
  unfold letterC
  rw [letterGo_len]
  omega
theorem letterC_ok {ns : List Int} {at_ size most : Nat} : ∀ x ∈ letterC ns at_ size most, okL size x := letterGo_ok _
theorem letter_turn {ns : List Int} {at_ size : Nat} (ha : at_ ≤ 1000) (hsz : size ≤ 1000) {most : PV} {k : Nat} (hk : k ≤ 1000) {made : List Pc} (hm : made.length ≤ 1000) {s6 s7 s8 : Sl1} :
    ∃ s6' s7' s8', b1_q_letter [.d (.z ns), .d (.i at_), .d (.i size), .d most, .m (letPV made), .d (.i k), s6, s7, s8] = some (.nx [.d (.z ns), .d (.i at_), .d (.i size), .d most, .m (letPV (made ++ [stepC ns at_ size made k])), .d (.i k), s6', s7', s8']) := by
  have hbig : 100000 ≤ big := by unfold big; omega
  have hb : made.length < big := by omega
  have ep : (at_ : Int) + 1 + 4 * (k : Int) = ((at_ + 1 + 4 * k : Nat) : Int) := by simp
  have hq := q_text_eq ns (at_ := ((at_ + 1 + 4 * k : Nat) : Int)) (most := 3) (by omega) (by decide) (by decide)
  have hm3 := q_mixed_eq ns (k := ((at_ + 1 + 4 * k : Nat) : Int) + 3) (many := 3) (by omega) (by decide)
  have tl := text_len (ns := ns) (at_ := (at_ + 1 + 4 * k : Nat)) (most := 3) (by decide)
  unfold stepC firstC
  generalize hpl : at_ + 1 + 4 * k = pl at *
  have htb : (text ns pl 3).length + 1 ≤ big := by omega
  by_cases h0 : size = 0
  · subst h0
    refine ⟨.d (.i pl), .d (.s (text ns pl 3)), s8, ?_⟩
    simp [b1_q_letter, gMul_l, ep, hq, htb, hb]
  · have hz : ((size : Int) == 0) = false := by rw [beq_eq_false_iff_ne]; omega
    by_cases h3 : mixed ns ((pl : Int) + 3) 3 = 0
    · refine ⟨.d (.i pl), .d (.s (text ns pl 3)), s8, ?_⟩
      simp [b1_q_letter, gMul_l, ep, hq, hm3, hz, h0, h3, htb, hb]
    · have hs : (0 : Int) < size := by omega
      have h3z : (mixed ns ((pl : Int) + 3) 3 == 0) = false := by rw [beq_eq_false_iff_ne]; exact h3
      have hm1 := q_mixed_eq ns (k := (pl : Int) + 1) (many := size) (by omega) hs
      have r1 := mixed_nn (ns := ns) (k := (pl : Int) + 1) (many := size) hs
      have hm2 := q_mixed_eq ns (k := (pl : Int)) (many := 2) (by omega) (by decide)
      have r2 := mixed_nn (ns := ns) (k := (pl : Int)) (many := 2) (by decide)
      obtain ⟨f, hf⟩ : ∃ f : Nat, mixed ns ((pl : Int) + 1) size = (f : Int) := ⟨_, (Int.toNat_of_nonneg r1.1).symm⟩
      have fin : ∀ g : Nat, g < size → (cApp 4 (cTup [(cK (.s [99, 111, 112, 121])), (cV 8), (c2 gAdd (cK (.i 1)) (cCall q_mixed [(cV 0), (c2 gAdd (cV 6) (cK (.i 2))), (c2 gSub (cV 2) (cV 8))]))]))
          [.d (.z ns), .d (.i at_), .d (.i size), .d most, .m (letPV made), .d (.i k), .d (.i pl), .d (.s (text ns pl 3)), .d (.i g)] =
          some (.nx [.d (.z ns), .d (.i at_), .d (.i size), .d most, .m (letPV (made ++ [.cp g (1 + (mixed ns ((pl : Int) + 2) ((size : Int) - g)).toNat)])), .d (.i k), .d (.i pl), .d (.s (text ns pl 3)), .d (.i g)]) := by
        intro g hg
        have hmg := q_mixed_eq ns (k := (pl : Int) + 2) (many := (size : Int) - g) (by omega) (by omega)
        have rg := mixed_nn (ns := ns) (k := (pl : Int) + 2) (many := (size : Int) - g) (by omega)
        have e : ((1 + (mixed ns ((pl : Int) + 2) ((size : Int) - g)).toNat : Nat) : Int) = 1 + mixed ns ((pl : Int) + 2) ((size : Int) - g) := by omega
        simp [hmg, hb, -Int.natCast_add, e]
      have hfl : f < size := by omega
      rcases snoc_cases made with rfl | ⟨init, y, rfl⟩
      · refine ⟨.d (.i pl), .d (.s (text ns pl 3)), .d (.i f), ?_⟩
        have := fin f hfl
        simp [-cApp_ap, b1_q_letter, gMul_l, ep, hq, hm3, hz, h0, h3, h3z, hm1, hf, gNe_l0] at this ⊢
        exact this
      · have e1 : gNe (.l (letPV init ++ [pcPV y])) (.l []) = some (.d (.b true)) := by
          have hd := deps_let (init ++ [y])
          rw [gNe_l0 (by simp [letPV] at hd ⊢; omega)]
          simp
        cases y with
        | sg a =>
          refine ⟨.d (.i pl), .d (.s (text ns pl 3)), .d (.i f), ?_⟩
          have := fin f hfl
          simp only [letPV, pcPV_sg] at e1
          simp [-cApp_ap, b1_q_letter, gMul_l, ep, hq, hm3, hz, h0, h3, h3z, hm1, hf, e1] at this ⊢
          exact this
        | cp p n =>
          simp only [letPV, pcPV_cp] at e1
          by_cases hpn : p + n < size
          · have hpn2 : (p : Int) + n < size := by omega
            have e2 : mixed ns pl 2 = 0 ∨ mixed ns pl 2 = 1 := by omega
            rcases e2 with e2 | e2
            · refine ⟨.d (.i pl), .d (.s (text ns pl 3)), .d (.i f), ?_⟩
              have := fin f hfl
              simp [-cApp_ap, b1_q_letter, gMul_l, ep, hq, hm3, hz, h0, h3, h3z, hm1, hf, e1, hpn, hpn2, hm2, e2] at this ⊢
              exact this
            · refine ⟨.d (.i pl), .d (.s (text ns pl 3)), .d (.i (p + n : Nat)), ?_⟩
              have := fin (p + n) hpn
              simp [-cApp_ap, b1_q_letter, gMul_l, ep, hq, hm3, hz, h0, h3, h3z, hm1, hf, e1, hpn, hpn2, hm2, e2] at this ⊢
              exact this
          · have hpn2 : ¬ (p : Int) + n < size := by omega
            refine ⟨.d (.i pl), .d (.s (text ns pl 3)), .d (.i f), ?_⟩
            have := fin f hfl
            simp [-cApp_ap, b1_q_letter, gMul_l, ep, hq, hm3, hz, h0, h3, h3z, hm1, hf, e1, hpn, hpn2] at this ⊢
            exact this
theorem q_letter_eq {ns : List Int} {at_ size most : Nat} (ha : at_ ≤ 1000) (hs : size ≤ 1000) (hm : most ≤ 100) : q_letter [.z ns, .i at_, .i size, .i most] = some (.f (letPV (letterC ns at_ size most))) := by
  unfold q_letter
  rw [fnD4]
  have r := mixed_nn (ns := ns) (k := at_) (many := (most : Int) + 1) (by omega)
  have hq := q_mixed_eq ns (k := at_) (many := (most : Int) + 1) (by omega) (by omega)
  have key := forGo_inv (tg := tgN 5) (s := b1_q_letter) (m := fun k : Nat => PV.i (0 + (k : Nat))) (L := List.range (mixed ns at_ ((most : Int) + 1)).toNat)
    (ρ := [.d (.z ns), .d (.i at_), .d (.i size), .d (.i most), .m [], .u, .u, .u, .u])
    (S := fun pre ρ => ∃ a b c d, ρ = [.d (.z ns), .d (.i at_), .d (.i size), .d (.i most), .m (letPV (letterGo ns at_ size pre.length)), a, b, c, d])
    ⟨.u, .u, .u, .u, rfl⟩ (by
    rintro pre k post hL ρ1 ⟨a, b, c, d, rfl⟩
    obtain ⟨rfl, hlt⟩ := range_split hL
    obtain ⟨x, y, z, e⟩ := letter_turn (ns := ns) ha hs (most := .i most) (k := pre.length) (by omega) (made := letterGo ns at_ size pre.length) (by rw [letterGo_len]; omega) (s6 := b) (s7 := c) (s8 := d)
    simp only [tgN_ap, List.set_cons_succ, List.set_cons_zero, tu_some, Int.zero_add]
    rw [e]
    exact ⟨.d (.i pre.length), x, y, z, by rw [List.length_append, List.length_singleton, letterGo_succ]⟩)
  obtain ⟨ρ', e, a, b, c, d, rfl⟩ := key
  simp [b_q_letter, hq, upTo_map, show (mixed ns at_ ((most : Int) + 1)).natAbs < lim by unfold lim; omega]
  simp at e
  rw [e]
  simp [letterC]
theorem marks_small {size : Nat} : ∀ {L : List Pc}, (∀ x ∈ L, okL size x) → (marksC L).length ≤ L.length * (size + 4)
  | [], _ => by simp [marksC]
  | x :: L, h => by
    have e : marksC (x :: L) = marks1 x ++ marksC L := by simp [marksC]
    have ih := marks_small (L := L) fun y hy => h y (by simp [hy])
    have hx := h x (by simp)
    rw [e, List.length_append, marks1_len, List.length_cons, Nat.add_mul]
    have : DD.size x ≤ size + 4 := by
      cases x with
      | sg cs => have := hx.2.1; simp [DD.size]; omega
      | cp p n => have := hx.2; simp [DD.size]; omega
    omega
theorem made_some {elder : List Nat} : ∀ {L : List Pc}, (∀ x ∈ L, okL elder.length x) → ∃ cs, madeC elder L = some cs
  | [], _ => ⟨[], rfl⟩
  | x :: L, h => by
    obtain ⟨cs, ih⟩ := made_some (L := L) fun y hy => h y (by simp [hy])
    have hx := h x (by simp)
    unfold madeC at ih ⊢
    cases e : madeP elder L with
    | none => rw [e] at ih; cases ih
    | some ps =>
      cases x with
      | sg cs => exact ⟨_, by simp [madeP, e]; rfl⟩
      | cp p n => exact ⟨_, by simp [madeP, e, hx.2]; rfl⟩
end DD
/-! letters as lines -/
namespace DD
open PySem PySem.Spec L2
def b1_p_line_of : CF := (c1 gStr (cV 1))
def b_p_line_of : CS := (cRet (c2 gAdd (cM1 gJoin (cK (.s [32])) (cLc [1] (iT (cV 0)) (tgN 1) cYes b1_p_line_of)) (cK (.s [10]))))
def p_line_of : List PV → Option ER := fnD 1 2 b_p_line_of
def b1_p_shown : CF := (cCall p_line_of [(cV 1)])
def b_p_shown : CS := (cSeq (cDrop (cCall p_need_letter [(cV 0)]))
    (cRet (cM1 gJoin (cK (.s [])) (cLc [1] (iL (cV 0)) (tgN 1) cYes b1_p_shown))))
def p_shown : List PV → Option ER := fnD 1 2 b_p_shown
def b1_p_lnumber_of : CF := (c2 gInS (cV 1) (cK (.s [48, 49, 50, 51, 52, 53, 54, 55, 56, 57])))
def b_p_lnumber_of : CS := (cSeq (cIf (cOr (cNot (cChain gLe gLe (cK (.i 1)) (c1 gLen (cV 0)) (cK (.i 300)))) (cNot (c1 gAll (cLc [1] (iS (cV 0)) (tgN 1) cYes b1_p_lnumber_of))))
    (cRaise 7)
    cNext)
    (cSeq (cIf (cAnd (c2 gGt (c1 gLen (cV 0)) (cK (.i 1))) (c2 gEq (c2 gIdx (cV 0) (cK (.i 0))) (cK (.s [48]))))
    (cRaise 7)
    cNext)
    (cRet (c1 gIntS (cV 0)))))
def p_lnumber_of : List PV → Option ER := fnD 1 2 b_p_lnumber_of
def b_p_piece_of : CS := (cSeq (cIf (c2 gEq (cSl (cV 0) none (some (cK (.i 6)))) (cK (.s [115, 105, 103, 110, 115, 32])))
    (cRet (cTup [(cK (.s [115, 105, 103, 110, 115])), (cSl (cV 0) (some (cK (.i 6))) none)]))
    cNext)
    (cSeq (cAsg 1 (cM1 gSplit (cV 0) (cK (.s [32]))))
    (cSeq (cIf (cOr (c2 gNe (c2 gIdx (cV 1) (cK (.i 0))) (cK (.s [99, 111, 112, 121]))) (c2 gNe (c1 gLen (cV 1)) (cK (.i 3))))
    (cRaise 7)
    cNext)
    (cRet (cTup [(cK (.s [99, 111, 112, 121])), (cCall p_lnumber_of [(c2 gIdx (cV 1) (cK (.i 1)))]), (cCall p_lnumber_of [(c2 gIdx (cV 1) (cK (.i 2)))])])))))
def p_piece_of : List PV → Option ER := fnD 1 2 b_p_piece_of
theorem cutP_0m1 {α : Type} {l : List α} : cutP l none (some (-1)) = l.dropLast := by
  unfold cutP
  have e : HT.sIx l.length l.length (some (-1)) = l.length - 1 := by
    simp [HT.sIx]
    omega
  rw [HT.sIx_none, e, List.drop_zero, Nat.sub_zero, List.dropLast_eq_take]
/-! ### lines -/
def lineB : Pc → List Nat
  | .sg cs => [115, 105, 103, 110, 115, 32] ++ cs
  | .cp p n => [99, 111, 112, 121] ++ ([32] ++ (TL.numL p ++ ([32] ++ TL.numL n)))
abbrev lineC (x : Pc) : List Nat := lineB x ++ [10]
abbrev linesC (L : List Pc) : List Nat := (L.map lineC).flatten
/-- what can be written and read -/
def okN : Pc → Prop
  | .sg cs => cs.length ≤ 2000
  | .cp p n => p < numLim ∧ n < numLim
theorem num_len {n : Nat} (h : n < numLim) : (TL.numL n).length ≤ 60 := TL.numL_len (by decide) (Nat.lt_of_lt_of_le h (by decide +kernel))
theorem p_line_of_eq {x : Pc} (h : okN x) : p_line_of [pcPV x] = some (.d (.s (lineC x))) := by
  unfold p_line_of
  rw [fnD1]
  have hbig : 1000000 ≤ big := by unfold big; omega
  cases x with
  | sg cs =>
    have h1 : cs.length ≤ 2000 := h
    have hb : 5 + (cs.length + (0 + 1)) + 1 ≤ big := by omega
    simp [b_p_line_of, b1_p_line_of, lcGo_cons, lcS, strsOf, TL.joinL]
    rw [if_pos (by simp [lensum]; omega)]
    simp only [e1_d, gAdd_s]
    rw [if_pos (by simp; omega)]
    simp [lineC, lineB]
  | cp p n =>
    obtain ⟨h1, h2⟩ := h
    have l1 := num_len h1
    have l2 := num_len h2
    simp [b_p_line_of, b1_p_line_of, lcGo_cons, lcS, strsOf, TL.joinL, h1, h2]
    rw [if_pos (by simp [lensum]; omega)]
    simp only [e1_d, gAdd_s]
    rw [if_pos (by simp; omega)]
    simp [lineC, lineB]
/-! ### numbers -/
def figC (f : List Nat) : Option Nat := if f ≠ [] ∧ f.all isFig = true ∧ ¬ (1 < f.length ∧ f[0]? = some 48) then some (NumText.digitsVal f) else none
theorem inC_one {txt : List Nat} {c : Nat} : inC txt [c] = true ↔ c ∈ txt := by
  rw [inC_iff]
  constructor
  · rintro ⟨i, h⟩
    unfold occ at h
    simp at h
    obtain ⟨h1, h2⟩ := h
    have hm : c ∈ (txt.drop i).take 1 := by rw [h2]; simp
    exact List.mem_of_mem_drop (List.mem_of_mem_take hm)
  · intro h
    obtain ⟨i, hi, e⟩ := List.getElem_of_mem h
    refine ⟨i, ?_⟩
    unfold occ
    simp
    refine ⟨by omega, ?_⟩
    rw [List.drop_eq_getElem_cons hi, List.take_succ_cons, e]
    simp
theorem inC_fig (c : Nat) : inC [48, 49, 50, 51, 52, 53, 54, 55, 56, 57] [c] = isFig c := by
  rw [Bool.eq_iff_iff, inC_one]
  unfold isFig
  simp
  omega
theorem p_lnumber_of_eq {f : List Nat} (hl : f.length ≤ 300) : p_lnumber_of [.s f] = match figC f with
    | some n => some (.d (.i (n : Nat)))
    | none => some (.e 7) := by
  unfold p_lnumber_of
  rw [fnD1]
  have hbig : 1000000 ≤ big := by unfold big; omega
  have hb : f.length ≤ big := by omega
  have e : lcGo (tgN 1) cYes b1_p_lnumber_of [.d (.s f), .u] (f.map fun c => PV.s [c]) [] = some ([] ++ f.map fun c => PV.b (isFig c)) :=
    lcGo_map (m := fun c => PV.s [c]) (w := fun c => PV.b (isFig c)) (fun c _ => ⟨_, rfl, rfl, by simp [b1_p_lnumber_of, inC_fig]⟩) []
  have hall : (f.map isFig).all id = f.all isFig := by rw [List.all_map]; rfl
  unfold figC
  by_cases h0 : f = []
  · subst h0
    simp [b_p_lnumber_of]
  · have h1 : 1 ≤ f.length := by
      cases f with
      | nil => exact absurd rfl h0
      | cons c r => simp
    have hi : (1 : Int) ≤ f.length := by omega
    have hi2 : (f.length : Int) ≤ 300 := by omega
    by_cases ha : f.all isFig = true
    · by_cases hz : 1 < f.length
      · have hz2 : (1 : Int) < f.length := by omega
        have hx : f[0]? = some (f[0]'(by omega)) := List.getElem?_eq_getElem (by omega)
        by_cases hh : f[0]'(by omega) = 48
        · simp [b_p_lnumber_of, hb, e, blsOf_map' isFig, hall, ha, hi, hi2, hz2, hx, hh, h0, hz]
        · have hq : ([f[0]'(by omega)] == [48]) = false := by simp [hh]
          simp [b_p_lnumber_of, hb, e, blsOf_map' isFig, hall, ha, hi, hi2, hz2, hx, hh, h0, hz, hq, show f.length ≤ 640 by omega]
      · have hz2 : ¬ (1 : Int) < f.length := by omega
        simp [b_p_lnumber_of, hb, e, blsOf_map' isFig, hall, ha, hi, hi2, hz2, h0, hz, show f.length ≤ 640 by omega]
    · simp [b_p_lnumber_of, hb, e, blsOf_map' isFig, hall, ha, hi, hi2]
theorem digs_figs {cs : List Nat} (h : NumText.AllDigits cs) : cs.all isFig = true := List.all_eq_true.mpr fun c hc => by
  have := h c hc
  unfold isFig
  simp [this.1, this.2]
theorem num_head (n : Nat) : ¬ (1 < (TL.numL n).length ∧ (TL.numL n)[0]? = some 48) := by
  induction n using Nat.strongRecOn with
  | _ n ih =>
    by_cases h : n < 10
    · rw [TL.numL_lt h]
      simp
    · rw [TL.numL_step (by omega)]
      rintro ⟨_, h2⟩
      have hne := TL.numL_ne (n / 10)
      have hl : 0 < (TL.numL (n / 10)).length := List.length_pos_iff.mpr hne
      rw [List.getElem?_append_left hl] at h2
      by_cases h3 : n / 10 < 10
      · rw [TL.numL_lt h3] at h2
        simp at h2
        omega
      · refine ih (n / 10) (by omega) ⟨?_, h2⟩
        rw [TL.numL_step (by omega)]
        have := List.length_pos_iff.mpr (TL.numL_ne (n / 10 / 10))
        simp
        omega
theorem figC_num (n : Nat) : figC (TL.numL n) = some n := by
  unfold figC
  rw [if_pos ⟨TL.numL_ne n, digs_figs (TL.numL_digits n), num_head n⟩, TL.numL_val]
/-! ### pieces -/
def pieceC (l : List Nat) : Option Pc := if l.take 6 = [115, 105, 103, 110, 115, 32] then some (.sg (l.drop 6)) else match TL.spl [32] 0 [] l with
  | [a, b, c] => if a = [99, 111, 112, 121] then (match figC b, figC c with
    | some p, some n => some (.cp p n)
    | _, _ => none) else none
  | _ => none
theorem spl_len {s : Nat} : ∀ (l acc : List Nat), ∀ p ∈ TL.spl [s] 0 acc l, p.length ≤ acc.length + l.length
  | [], acc, p, h => by
    rw [TL.spl_nil, List.mem_singleton] at h
    subst h
    simp
  | c :: l, acc, p, h => by
    unfold TL.spl at h
    split at h
    · rcases List.mem_cons.mp h with rfl | h
      · simp
      · have := spl_len l [] p h
        simp at this ⊢
        omega
    · have := spl_len l (acc ++ [c]) p h
      simp at this ⊢
      omega
theorem spl_ne {s : Nat} : ∀ (l acc : List Nat), TL.spl [s] 0 acc l ≠ []
  | [], acc => by rw [TL.spl_nil]; simp
  | c :: l, acc => by
    unfold TL.spl
    split
    · simp
    · exact spl_ne l (acc ++ [c])
theorem p_piece_of_eq {l : List Nat} (hl : l.length ≤ 300) : p_piece_of [.s l] = match pieceC l with
    | some x => some (.d (pcPV x))
    | none => some (.e 7) := by
  unfold p_piece_of
  rw [fnD1]
  have hbig : 1000000 ≤ big := by unfold big; omega
  have hb : l.length ≤ big := by omega
  have hb2 : l.length + 2 ≤ big := by omega
  have c1 : cutP l none (some 6) = l.take 6 := cutP_0n (by decide)
  have c2 : cutP l (some 6) none = l.drop 6 := cutP_n0 (by decide)
  unfold pieceC
  by_cases h : l.take 6 = [115, 105, 103, 110, 115, 32]
  · simp [b_p_piece_of, hb, c1, c2, h]
  · have hq : (l.take 6 == [115, 105, 103, 110, 115, 32]) = false := beq_eq_false_iff_ne.mpr h
    have hne := spl_ne (s := 32) l []
    have hln := spl_len (s := 32) l []
    rw [if_neg h]
    generalize hS : TL.spl [32] 0 [] l = S at *
    match S, hne with
    | [], hne => exact absurd rfl hne
    | [a], _ =>
      cases hab : (a == [99, 111, 112, 121]) <;> simp [b_p_piece_of, hb, hb2, c1, hq, hS, hab]
    | [a, b], _ =>
      cases hab : (a == [99, 111, 112, 121]) <;> simp [b_p_piece_of, hb, hb2, c1, hq, hS, hab]
    | [a, b, c], _ =>
      have lb := hln b (by simp)
      have lc := hln c (by simp)
      by_cases ha : a = [99, 111, 112, 121]
      · subst ha
        have nb := p_lnumber_of_eq (f := b) (by simp at lb; omega)
        have nc := p_lnumber_of_eq (f := c) (by simp at lc; omega)
        cases eb : figC b with
        | none =>
          rw [eb] at nb
          simp [b_p_piece_of, hb, hb2, c1, hq, hS, nb, eb]
        | some p =>
          rw [eb] at nb
          cases ec : figC c with
          | none =>
            rw [ec] at nc
            simp [b_p_piece_of, hb, hb2, c1, hq, hS, nb, nc, eb, ec]
          | some n =>
            rw [ec] at nc
            simp [b_p_piece_of, hb, hb2, c1, hq, hS, nb, nc, eb, ec]
      · have haq : (a == [99, 111, 112, 121]) = false := beq_eq_false_iff_ne.mpr ha
        simp [b_p_piece_of, hb, hb2, c1, hq, hS, ha, haq]
    | a :: b :: c :: d :: r, _ =>
      have hq3 : ((r.length : Int) + 1 + 1 + 1 + 1 == 3) = false := by rw [beq_eq_false_iff_ne]; omega
      cases hab : (a == [99, 111, 112, 121]) <;> simp [b_p_piece_of, hb, hb2, c1, hq, hS, hq3, hab]
theorem pieceC_line {x : Pc} : pieceC (lineB x) = some x := by
  unfold pieceC
  cases x with
  | sg cs => simp [lineB]
  | cp p n =>
    have e : TL.spl [32] 0 [] (lineB (.cp p n)) = [[99, 111, 112, 121], TL.numL p, TL.numL n] := by
      refine TL.spl_join (parts := [[99, 111, 112, 121], TL.numL p, TL.numL n]) (by simp) fun z hz => ?_
      rcases List.mem_cons.mp hz with rfl | hz
      · decide
      · rcases List.mem_cons.mp hz with rfl | hz
        · exact TL.numL_free (by omega)
        · rw [List.mem_singleton.mp hz]
          exact TL.numL_free (by omega)
    have hq : ¬ (lineB (.cp p n)).take 6 = [115, 105, 103, 110, 115, 32] := by
      intro h
      simp [lineB] at h
    rw [if_neg hq, e]
    simp [figC_num]
theorem join_lines : ∀ B : List (List Nat), TL.joinL [10] (B ++ [[]]) = (B.map (· ++ [10])).flatten
  | [] => rfl
  | [b] => by simp [TL.joinL]
  | b :: c :: B => by
    have ih := join_lines (c :: B)
    rw [List.cons_append] at ih
    simp only [List.cons_append, TL.joinL]
    rw [ih]
    simp
theorem line_no {x : Pc} (h : okPc x) : 10 ∉ lineB x := by
  cases x with
  | sg cs =>
    intro hm
    simp [lineB] at hm
    have := List.all_eq_true.mp h.2.2 10 hm
    exact absurd this (by decide)
  | cp p n =>
    intro hm
    simp [lineB] at hm
    rcases hm with hm | hm
    · exact TL.numL_free (by omega) hm
    · exact TL.numL_free (by omega) hm
theorem lines_split {L : List Pc} (h : ∀ x ∈ L, okPc x) : TL.spl [10] 0 [] (linesC L) = L.map lineB ++ [[]] := by
  have e : linesC L = TL.joinL [10] (L.map lineB ++ [[]]) := by rw [join_lines, List.map_map]; rfl
  rw [e]
  refine TL.spl_join (by simp) fun z hz => ?_
  rcases List.mem_append.mp hz with hz | hz
  · obtain ⟨x, hx, rfl⟩ := List.mem_map.mp hz
    exact line_no (h x hx)
  · rw [List.mem_singleton.mp hz]
    simp
theorem line_len {x : Pc} (h : okN x) : (lineB x).length ≤ 2010 := by
  cases x with
  | sg cs => have h1 : cs.length ≤ 2000 := h; simp [lineB]; omega
  | cp p n =>
    have := num_len h.1
    have := num_len h.2
    simp [lineB]
    omega
theorem lines_len : ∀ {L : List Pc}, (∀ x ∈ L, okN x) → (linesC L).length ≤ 2011 * L.length
  | [], _ => by simp
  | x :: L, h => by
    have ih := lines_len (L := L) fun y hy => h y (by simp [hy])
    have := line_len (h x (by simp))
    simp at ih ⊢
    omega
theorem p_shown_eq {L : List Pc} (hl : L.length ≤ 2000) (h : ∀ x ∈ L, okPc x) (hn : ∀ x ∈ L, okN x) : p_shown [.l (letPV L)] = some (.d (.s (linesC L))) := by
  unfold p_shown
  rw [fnD1]
  have hbig : 10000000 ≤ big := by unfold big; omega
  have hb : L.length ≤ big := by omega
  have e : lcGo (tgN 1) cYes b1_p_shown [.d (.l (letPV L)), .u] (letPV L) [] = some ([] ++ L.map fun x => PV.s (lineC x)) :=
    lcGo_map (m := pcPV) (w := fun x => PV.s (lineC x)) (fun x hx => ⟨_, rfl, rfl, by simp [b1_p_shown, p_line_of_eq (hn x hx)]⟩) []
  have hs : strsOf (L.map fun x => PV.s (lineC x)) = some (L.map lineC) := by
    rw [← strsOf_map, List.map_map]
    rfl
  have hll := lines_len hn
  have hle : lensum (L.map lineC) ≤ big := by rw [lensum_flat]; show (linesC L).length ≤ big; omega
  have hb3 : (letPV L).length ≤ big := by simpa using hb
  have hnl := p_need_letter_ok hl h
  generalize letPV L = G at *
  simp [b_p_shown, hnl, hb3, e]
  rw [hs]
  simp [joinL_nil, hle]
end DD
/-! what the laws hold to be a letter -/
namespace DD
open PySem PySem.Spec L2
def b_q_is_piece : CS := (cSeq (cIf (cOr (cNot (c1 (gIs "tuple") (cV 0))) (c2 gLt (c1 gLen (cV 0)) (cK (.i 2))))
    (cRet (cK (.b false)))
    cNext)
    (cSeq (cIf (c2 gEq (c2 gIdx (cV 0) (cK (.i 0))) (cK (.s [115, 105, 103, 110, 115])))
    (cRet (cAnd (c2 gEq (c1 gLen (cV 0)) (cK (.i 2))) (cAnd (c1 (gIs "str") (c2 gIdx (cV 0) (cK (.i 1)))) (c2 gNe (c2 gIdx (cV 0) (cK (.i 1))) (cK (.s []))))))
    cNext)
    (cSeq (cIf (cOr (c2 gNe (c2 gIdx (cV 0) (cK (.i 0))) (cK (.s [99, 111, 112, 121]))) (c2 gNe (c1 gLen (cV 0)) (cK (.i 3))))
    (cRet (cK (.b false)))
    cNext)
    (cRet (cAnd (cCall q_whole [(c2 gIdx (cV 0) (cK (.i 1)))]) (cAnd (c2 gGe (c2 gIdx (cV 0) (cK (.i 1))) (cK (.i 0))) (cAnd (cCall q_whole [(c2 gIdx (cV 0) (cK (.i 2)))]) (c2 gGt (c2 gIdx (cV 0) (cK (.i 2))) (cK (.i 0))))))))))
def q_is_piece : List PV → Option ER := fnD 1 1 b_q_is_piece
def b1_q_is_letter : CF := (cV 1)
def b1t_q_is_letter : CF := (cNot (cCall q_is_piece [(cV 1)]))
def b_q_is_letter : CS := (cRet (cAnd (c1 (gIs "list") (cV 0)) (c2 gEq (cLc [1] (iL (cV 0)) (tgN 1) b1t_q_is_letter b1_q_is_letter) (cLst []))))
def q_is_letter : List PV → Option ER := fnD 1 2 b_q_is_letter
/-- a piece that makes something -/
def neB : Pc → Bool
  | .sg cs => !cs.isEmpty
  | .cp _ n => decide (0 < n)
theorem q_is_piece_eq (x : Pc) : q_is_piece [pcPV x] = some (.d (.b (neB x))) := by
  unfold q_is_piece
  rw [fnD1]
  cases x with
  | sg cs => cases cs <;> simp [b_q_is_piece, isU, isS, neB]
  | cp p n => simp [b_q_is_piece, isU, q_whole_eq, isI, isB, neB]
theorem q_is_letter_eq {L : List Pc} (hl : L.length ≤ 100000) : q_is_letter [.l (letPV L)] = some (.d (.b (L.all neB))) := by
  unfold q_is_letter
  rw [fnD1]
  have hbig : 1000000 ≤ big := by unfold big; omega
  have e : lcGo (tgN 1) b1t_q_is_letter b1_q_is_letter [.d (.l (letPV L)), .u] (letPV L) [] = some ([] ++ (L.filter fun x => !neB x).map pcPV) :=
    lcGo_filter (m := pcPV) (w := pcPV) (p := fun x => !neB x) (fun x _ => ⟨_, rfl, by simp [b1t_q_is_letter, q_is_piece_eq], fun _ => by simp [b1_q_is_letter]⟩) []
  have hb : (letPV L).length ≤ big := by simp; omega
  have hd := deps_let (L.filter fun x => !neB x)
  have hg : gEq (.l (letPV (L.filter fun x => !neB x))) (.l []) = some (.d (.b (L.all neB))) := by
    rw [gEq_l0 (by omega)]
    congr 3
    rw [Bool.eq_iff_iff, List.isEmpty_iff, List.map_eq_nil_iff, List.filter_eq_nil_iff, List.all_eq_true]
    simp
  change _ = some ([] ++ letPV (L.filter fun x => !neB x)) at e
  generalize letPV (L.filter fun x => !neB x) = Z at *
  generalize letPV L = G at *
  simp [b_q_is_letter, isL, hb, e, hg]
end DD
/-! lines read, whatever they are -/
namespace DD
open PySem PySem.Spec L2
def b1_q_number : CF := (cV 1)
def b1t_q_number : CF := (c2 gNInS (cV 1) (cK (.s [48, 49, 50, 51, 52, 53, 54, 55, 56, 57])))
def b_q_number : CS := (cSeq (cIf (cOr (c2 gEq (cV 0) (cK (.s []))) (c2 gNe (cLc [1] (iS (cV 0)) (tgN 1) b1t_q_number b1_q_number) (cLst [])))
    (cRet (cK .n))
    cNext)
    (cSeq (cIf (cAnd (c2 gEq (c2 gIdx (cV 0) (cK (.i 0))) (cK (.s [48]))) (c2 gNe (cV 0) (cK (.s [48]))))
    (cRet (cK .n))
    cNext)
    (cRet (c1 gIntS (cV 0)))))
def q_number : List PV → Option ER := fnD 1 2 b_q_number
def b_q_piece : CS := (cSeq (cIf (c2 gEq (cSl (cV 0) none (some (cK (.i 6)))) (cK (.s [115, 105, 103, 110, 115, 32])))
    (cRet (cTup [(cK (.s [115, 105, 103, 110, 115])), (cSl (cV 0) (some (cK (.i 6))) none)]))
    cNext)
    (cSeq (cAsg 1 (cM1 gSplit (cV 0) (cK (.s [32]))))
    (cSeq (cIf (cOr (c2 gNe (c1 gLen (cV 1)) (cK (.i 3))) (c2 gNe (c2 gIdx (cV 1) (cK (.i 0))) (cK (.s [99, 111, 112, 121]))))
    (cRet (cK .n))
    cNext)
    (cRet (cTup [(cK (.s [99, 111, 112, 121])), (cCall q_number [(c2 gIdx (cV 1) (cK (.i 1)))]), (cCall q_number [(c2 gIdx (cV 1) (cK (.i 2)))])])))))
def q_piece : List PV → Option ER := fnD 1 2 b_q_piece
def b1_p_read : CF := (cCall p_piece_of [(cV 3)])
def b2_p_read : CF := (cCall p_is_piece [(cV 4)])
def b_p_read : CS := (cSeq (cIf (cNot (c1 (gIs "str") (cV 0)))
    (cRaise 7)
    cNext)
    (cSeq (cAsg 1 (cM1 gSplit (cV 0) (cK (.s [10]))))
    (cSeq (cIf (cOr (c2 gNe (c2 gIdx (cV 1) (c1 gNeg (cK (.i 1)))) (cK (.s []))) (c2 gGt (c1 gLen (cV 1)) (c2 gAdd (cK (.i 2000)) (cK (.i 1)))))
    (cRaise 7)
    cNext)
    (cSeq (cAsg 2 (cLcX [3] (iL (cSl (cV 1) none (some (c1 gNeg (cK (.i 1)))))) (tgN 3) cYes b1_p_read))
    (cSeq (cIf (cNot (c1 gAll (cLc [4] (iL (cV 2)) (tgN 4) cYes b2_p_read)))
    (cRaise 7)
    cNext)
    (cRetV 2))))))
def p_read : List PV → Option ER := fnD 1 5 b_p_read
def b1_q_due : CF := (cCall q_piece [(cV 2)])
def b_q_due : CS := (cSeq (cIf (cOr (cNot (c1 (gIs "str") (cV 0))) (cAnd (c2 gNe (cV 0) (cK (.s []))) (c2 gNe (c2 gIdx (cV 0) (c1 gNeg (cK (.i 1)))) (cK (.s [10])))))
    (cRet (cK .n))
    cNext)
    (cSeq (cAsg 1 (cLc [2] (iL (cSl (cM1 gSplit (cV 0) (cK (.s [10]))) none (some (c1 gNeg (cK (.i 1)))))) (tgN 2) cYes b1_q_due))
    (cSeq (cIf (cNot (cCall q_is_letter [(cV 1)]))
    (cRet (cK .n))
    cNext)
    (cRetV 1))))
def q_due : List PV → Option ER := fnD 1 3 b_q_due
def b2_q_lines : CF := (c1 gStr (cV 2))
def b1_q_lines : CF := (c2 gAdd (cM1 gJoin (cK (.s [32])) (cLc [2] (iT (cV 1)) (tgN 2) cYes b2_q_lines)) (cK (.s [10])))
def b_q_lines : CS := (cRet (cM1 gJoin (cK (.s [])) (cLc [1] (iL (cV 0)) (tgN 1) cYes b1_q_lines)))
def q_lines : List PV → Option ER := fnD 1 3 b_q_lines
@[simp] theorem cLcX_ap {vs : List Nat} {it : CI} {tg : CT} {g f : CF} {ρ : Sl} : cLcX vs it tg g f ρ = it (fun xs => if xs.length ≤ big then lcGoX tg g f (wipeS ρ vs) xs [] else none) ρ := rfl
theorem lcGoX_map {α : Type} {tg : CT} {f : CF} {ρ : Sl} {m : α → PV} {w : α → Option PV} {c : Err} : ∀ {L : List α}, (∀ a ∈ L, ∃ ρ', tg (m a) ρ = some ρ' ∧ f ρ' = some ((w a).elim (.e c) .d)) →
    ∀ acc, lcGoX tg cYes f ρ (L.map m) acc = some (if L.all (fun a => (w a).isSome) = true then .f (acc ++ L.filterMap w) else .e c)
  | [], _, acc => by simp [lcGoX]
  | a :: L, h, acc => by
    obtain ⟨ρ', h1, h2⟩ := h a (by simp)
    have ih := lcGoX_map (L := L) (fun b hb => h b (by simp [hb]))
    rw [List.map_cons]
    unfold lcGoX
    rw [h1]
    dsimp only
    rw [cYes_ap]
    dsimp only
    rw [h2]
    cases hw : w a with
    | none => simp [hw]
    | some y => simp [hw, ih]
/-! ### numbers -/
def numPV : Option Nat → PV
  | some n => .i n
  | none => .n
theorem dep_num (o : Option Nat) : dep (numPV o) = 0 := by cases o <;> simp [numPV]
theorem q_number_eq {f : List Nat} (hl : f.length ≤ 300) : q_number [.s f] = some (.d (numPV (figC f))) := by
  unfold q_number
  rw [fnD1]
  have hbig : 1000000 ≤ big := by unfold big; omega
  have hb : f.length ≤ big := by omega
  have e : lcGo (tgN 1) b1t_q_number b1_q_number [.d (.s f), .u] (f.map fun c => PV.s [c]) [] = some ([] ++ (f.filter fun c => !isFig c).map fun c => PV.s [c]) :=
    lcGo_filter (m := fun c => PV.s [c]) (w := fun c => PV.s [c]) (p := fun c => !isFig c) (fun c _ => ⟨_, rfl, by simp [b1t_q_number, inC_fig], fun _ => by simp [b1_q_number]⟩) []
  have hd : deps ((f.filter fun c => !isFig c).map fun c => PV.s [c]) ≤ 0 := deps_map (fun c => by simp) _
  have hg : gNe (.l ((f.filter fun c => !isFig c).map fun c => PV.s [c])) (.l []) = some (.d (.b (!f.all isFig))) := by
    rw [gNe_l0 (by omega)]
    congr 3
    rw [Bool.eq_iff_iff]
    simp
  rw [List.nil_append] at e
  cases f with
  | nil => simp [b_q_number, figC, numPV]
  | cons c r =>
    have h640 : (c :: r).length ≤ 640 := by omega
    by_cases ha : (c :: r).all isFig = true
    · rw [ha] at hg
      generalize (((c :: r).filter fun c => !isFig c).map fun c => PV.s [c]) = Z at *
      by_cases hc : c = 48
      · by_cases hr : r = []
        · subst hc hr
          have hv : figC [48] = some (NumText.digitsVal [48]) := by decide +kernel
          rw [hv]
          simp at e
          simp [b_q_number, hb, e, hg, numPV, show isFig 48 = true from by decide]
        · subst hc
          have hv : figC (48 :: r) = none := by
            unfold figC
            rw [if_neg]
            rintro ⟨_, _, h⟩
            refine h ⟨?_, by simp⟩
            have := List.length_pos_iff.mpr hr
            simp
            omega
          rw [hv]
          have he : r.isEmpty = false := by
            cases r with
            | nil => exact absurd rfl hr
            | cons _ _ => rfl
          simp at e hb
          simp [b_q_number, hb, e, hg, numPV, he]
      · have hz : ([c] == [48]) = false := by simp [hc]
        have hv : figC (c :: r) = some (NumText.digitsVal (c :: r)) := by
          unfold figC
          rw [if_pos ⟨by simp, ha, fun h => hc (by simpa using h.2)⟩]
        rw [hv]
        simp at e hb ha h640
        simp [b_q_number, hb, e, hg, numPV, hz, hc, ha, h640]
        (rw [if_pos ha.2]) <;> rfl
    · have hv : figC (c :: r) = none := by
        unfold figC
        rw [if_neg fun h => ha h.2.1]
      have ha' : (c :: r).all isFig = false := by simpa using ha
      rw [ha'] at hg
      rw [hv]
      generalize (((c :: r).filter fun c => !isFig c).map fun c => PV.s [c]) = Z at *
      simp at e hb
      simp [b_q_number, hb, e, hg, numPV]
/-! ### pieces -/
def lawPc (l : List Nat) : PV := if l.take 6 = [115, 105, 103, 110, 115, 32] then .t [.s [115, 105, 103, 110, 115], .s (l.drop 6)] else match TL.spl [32] 0 [] l with
  | [a, b, c] => if a = [99, 111, 112, 121] then .t [.s [99, 111, 112, 121], numPV (figC b), numPV (figC c)] else .n
  | _ => .n
theorem q_piece_eq {l : List Nat} (hl : l.length ≤ 300) : q_piece [.s l] = some (.d (lawPc l)) := by
  unfold q_piece
  rw [fnD1]
  have hbig : 1000000 ≤ big := by unfold big; omega
  have hb : l.length ≤ big := by omega
  have hb2 : l.length + 2 ≤ big := by omega
  have c1 : cutP l none (some 6) = l.take 6 := cutP_0n (by decide)
  have c2 : cutP l (some 6) none = l.drop 6 := cutP_n0 (by decide)
  unfold lawPc
  by_cases h : l.take 6 = [115, 105, 103, 110, 115, 32]
  · simp [b_q_piece, hb, c1, c2, h]
  · have hq : (l.take 6 == [115, 105, 103, 110, 115, 32]) = false := beq_eq_false_iff_ne.mpr h
    have hne := spl_ne (s := 32) l []
    have hln := spl_len (s := 32) l []
    rw [if_neg h]
    generalize hS : TL.spl [32] 0 [] l = S at *
    match S, hne with
    | [], hne => exact absurd rfl hne
    | [a], _ => simp [b_q_piece, hb, hb2, c1, hq, hS]
    | [a, b], _ => simp [b_q_piece, hb, hb2, c1, hq, hS]
    | [a, b, c], _ =>
      have lb := hln b (by simp)
      have lc := hln c (by simp)
      have nb := q_number_eq (f := b) (by simp at lb; omega)
      have nc := q_number_eq (f := c) (by simp at lc; omega)
      by_cases ha : a = [99, 111, 112, 121]
      · subst ha
        simp [b_q_piece, hb, hb2, c1, hq, hS, nb, nc]
      · have haq : (a == [99, 111, 112, 121]) = false := beq_eq_false_iff_ne.mpr ha
        simp [b_q_piece, hb, hb2, c1, hq, hS, ha, haq]
    | a :: b :: c :: d :: r, _ =>
      have hq3 : ((r.length : Int) + 1 + 1 + 1 + 1 == 3) = false := by rw [beq_eq_false_iff_ne]; omega
      simp [b_q_piece, hb, hb2, c1, hq, hS, hq3]
theorem lawPc_some {l : List Nat} {x : Pc} (h : pieceC l = some x) : lawPc l = pcPV x := by
  unfold pieceC at h
  unfold lawPc
  by_cases h1 : l.take 6 = [115, 105, 103, 110, 115, 32]
  · rw [if_pos h1] at h ⊢
    cases h
    rfl
  · rw [if_neg h1] at h ⊢
    generalize TL.spl [32] 0 [] l = S at h ⊢
    match S with
    | [] => cases h
    | [a] => cases h
    | [a, b] => cases h
    | [a, b, c] =>
      dsimp only at h ⊢
      by_cases ha : a = [99, 111, 112, 121]
      · rw [if_pos ha] at h ⊢
        cases e1 : figC b with
        | none => simp [e1] at h
        | some p =>
          cases e2 : figC c with
          | none => simp [e1, e2] at h
          | some n =>
            rw [e1, e2] at h
            cases h
            rfl
      · rw [if_neg ha] at h
        cases h
    | a :: b :: c :: d :: r => cases h
theorem dep_law (l : List Nat) : dep (lawPc l) ≤ 1 := by
  unfold lawPc
  split
  · simp
  · split
    · split
      · simp [dep_num]
      · simp
    · simp
def okB (l : List Nat) : Bool := match pieceC l with
  | some x => neB x
  | none => false
theorem q_is_piece_law (l : List Nat) : q_is_piece [lawPc l] = some (.d (.b (okB l))) := by
  unfold okB
  cases h : pieceC l with
  | some x => rw [lawPc_some h, q_is_piece_eq]
  | none =>
    have hn : q_is_piece [.n] = some (.d (.b false)) := by
      unfold q_is_piece
      rw [fnD1]
      simp [b_q_is_piece, isU]
    unfold pieceC at h
    unfold lawPc
    by_cases h1 : l.take 6 = [115, 105, 103, 110, 115, 32]
    · rw [if_pos h1] at h
      cases h
    · rw [if_neg h1] at h ⊢
      generalize TL.spl [32] 0 [] l = S at h ⊢
      match S with
      | [] => exact hn
      | [a] => exact hn
      | [a, b] => exact hn
      | [a, b, c] =>
        dsimp only at h ⊢
        by_cases ha : a = [99, 111, 112, 121]
        · rw [if_pos ha] at h ⊢
          unfold q_is_piece
          rw [fnD1]
          cases e1 : figC b with
          | none => simp [b_q_is_piece, isU, q_whole_eq, isI, isB, numPV]
          | some p =>
            cases e2 : figC c with
            | none => simp [b_q_is_piece, isU, q_whole_eq, isI, isB, numPV]
            | some n =>
              rw [e1, e2] at h
              cases h
        · rw [if_neg ha]
          exact hn
      | a :: b :: c :: d :: r => exact hn
theorem q_letter_law {S : List (List Nat)} (hl : S.length ≤ 100000) : q_is_letter [.l (S.map lawPc)] = some (.d (.b (S.all okB))) := by
  unfold q_is_letter
  rw [fnD1]
  have hbig : 1000000 ≤ big := by unfold big; omega
  have e : lcGo (tgN 1) b1t_q_is_letter b1_q_is_letter [.d (.l (S.map lawPc)), .u] (S.map lawPc) [] = some ([] ++ (S.filter fun x => !okB x).map lawPc) :=
    lcGo_filter (m := lawPc) (w := lawPc) (p := fun x => !okB x) (fun x _ => ⟨_, rfl, by simp [b1t_q_is_letter, q_is_piece_law], fun _ => by simp [b1_q_is_letter]⟩) []
  have hb : (S.map lawPc).length ≤ big := by simp; omega
  have hd : deps ((S.filter fun x => !okB x).map lawPc) ≤ 1 := deps_map dep_law _
  have hg : gEq (.l ((S.filter fun x => !okB x).map lawPc)) (.l []) = some (.d (.b (S.all okB))) := by
    rw [gEq_l0 (by omega)]
    congr 3
    rw [Bool.eq_iff_iff, List.isEmpty_iff, List.map_eq_nil_iff, List.filter_eq_nil_iff, List.all_eq_true]
    simp
  rw [List.nil_append] at e
  generalize (S.filter fun x => !okB x).map lawPc = Z at *
  generalize S.map lawPc = G at *
  simp [b_q_is_letter, isL, hb, e, hg]
theorem p_is_piece_neB {x : Pc} (h : ∀ cs, x = .sg cs → cs.length ≤ 2000 ∧ cs.all isSign = true) : p_is_piece [pcPV x] = some (.d (.b (neB x))) := by
  cases x with
  | sg cs =>
    obtain ⟨h2, h3⟩ := h cs rfl
    have hb : cs.length ≤ big := by unfold big; omega
    unfold p_is_piece
    rw [fnD1]
    cases cs with
    | nil => simp [b_p_is_piece, isU, p_is_text_eq hb, neB]
    | cons c r =>
      have h4 : (((c :: r).length : Nat) : Int) ≤ 2000 := by omega
      have h5 : (1 : Int) ≤ ((c :: r).length : Nat) := by simp; omega
      simp [b_p_is_piece, isU, p_is_text_eq hb, neB]
      simp at h3 h4 h5
      simp [h3, h4, h5]
      exact h3.2
  | cp p n =>
    unfold p_is_piece
    rw [fnD1]
    by_cases hn : 1 ≤ n
    · simp [b_p_is_piece, isU, neB, show (1 : Int) ≤ n by omega, show 0 < n by omega]
    · have : n = 0 := by omega
      subst this
      simp [b_p_is_piece, isU, neB]
/-! ### lines -/
abbrev lns (T : List Nat) : List (List Nat) := (TL.spl [10] 0 [] T).dropLast
def endB (T : List Nat) : Bool := T.isEmpty || T.getLast? == some 10
def okT (T : List Nat) : Bool := endB T && (lns T).all okB
theorem pre_one {s c : Nat} {r : List Nat} : TL.pre [s] (c :: r) = (c == s) := by
  unfold TL.pre
  simp
  first
    | done
    | (rw [Bool.eq_iff_iff]; simp [eq_comm])
theorem spl_hit1 {s : Nat} {acc r : List Nat} : TL.spl [s] 0 acc (s :: r) = acc :: TL.spl [s] 0 [] r := TL.spl_hit (by rw [pre_one]; simp)
theorem spl_miss1 {s c : Nat} {acc r : List Nat} (h : c ≠ s) : TL.spl [s] 0 acc (c :: r) = TL.spl [s] 0 (acc ++ [c]) r := by
  conv => lhs; unfold TL.spl
  rw [pre_one, if_neg (by simp [h])]
theorem spl_last {s : Nat} : ∀ (l acc : List Nat), ∃ z, (TL.spl [s] 0 acc l).getLast? = some z ∧ (z = [] ↔ (l = [] ∧ acc = []) ∨ l.getLast? = some s)
  | [], acc => ⟨acc, by rw [TL.spl_nil]; simp⟩
  | c :: l, acc => by
    by_cases h : c = s
    · subst h
      obtain ⟨z, h1, h2⟩ := spl_last (s := c) l []
      refine ⟨z, ?_, ?_⟩
      · rw [spl_hit1, List.getLast?_cons, h1]
        rfl
      · rw [h2]
        cases l with
        | nil => simp
        | cons d l => simp [List.getLast?_cons_cons]
    · obtain ⟨z, h1, h2⟩ := spl_last (s := s) l (acc ++ [c])
      refine ⟨z, ?_, ?_⟩
      · rw [spl_miss1 h, h1]
      · rw [h2]
        cases l with
        | nil => simp [h]
        | cons d l => simp [List.getLast?_cons_cons]
theorem spl_sub {s : Nat} : ∀ (l acc : List Nat), ∀ p ∈ TL.spl [s] 0 acc l, ∀ c ∈ p, c ∈ acc ∨ (c ∈ l ∧ c ≠ s)
  | [], acc, p, h, c, hc => by
    rw [TL.spl_nil, List.mem_singleton] at h
    subst h
    exact .inl hc
  | d :: l, acc, p, h, c, hc => by
    by_cases hd : d = s
    · subst hd
      rw [spl_hit1] at h
      rcases (List.mem_cons.mp h) with rfl | h
      · exact .inl hc
      · rcases spl_sub l [] p h c hc with z | z
        · cases z
        · exact .inr ⟨by simp [z.1], z.2⟩
    · rw [spl_miss1 hd] at h
      rcases spl_sub l (acc ++ [d]) p h c hc with z | z
      · rcases List.mem_append.mp z with z | z
        · exact .inl z
        · have : c = d := by simpa using z
          subst this
          exact .inr ⟨by simp, hd⟩
      · exact .inr ⟨by simp [z.1], z.2⟩
theorem spl_cnt {s : Nat} : ∀ (l acc : List Nat), (TL.spl [s] 0 acc l).length ≤ l.length + 1
  | [], acc => by rw [TL.spl_nil]; simp
  | d :: l, acc => by
    by_cases hd : d = s
    · subst hd
      rw [spl_hit1]
      have := spl_cnt (s := d) l []
      simp
      omega
    · rw [spl_miss1 hd]
      have := spl_cnt (s := s) l (acc ++ [d])
      simp
      omega
/-- what is in a piece's signs -/
theorem pieceC_signs {l cs : List Nat} (h : pieceC l = some (.sg cs)) : cs = l.drop 6 := by
  unfold pieceC at h
  split at h
  · cases h
    rfl
  · split at h
    · split at h
      · split at h <;> cases h
      · cases h
    · cases h
structure Plain (T : List Nat) : Prop where
  len : T.length ≤ 200
  chr : ∀ c ∈ T, isSign c = true ∨ c = 10
theorem gLast {T : List Nat} : gIdx (.l ((TL.spl [10] 0 [] T).map PV.s)) (.i (-1)) = some (.d (.s ((TL.spl [10] 0 [] T).getLast?.getD []))) := by
  obtain ⟨z, h1, _⟩ := spl_last (s := 10) T []
  rw [gIdx_l, atI_m1, List.getLast?_map, h1]
  rfl
theorem last_end (T : List Nat) : ((TL.spl [10] 0 [] T).getLast?.getD [] == []) = endB T := by
  obtain ⟨z, h1, h2⟩ := spl_last (s := 10) T []
  rw [h1, Bool.eq_iff_iff]
  unfold endB
  simp [h2]
theorem fm_law : ∀ {S : List (List Nat)}, (∀ l ∈ S, ∃ x, pieceC l = some x) → (S.filterMap fun l => (pieceC l).map pcPV) = S.map lawPc
  | [], _ => rfl
  | l :: S, h => by
    obtain ⟨x, e⟩ := h l (by simp)
    have ih := fm_law (S := S) fun y hy => h y (by simp [hy])
    rw [List.filterMap_cons, e]
    simp only [Option.map_some, List.map_cons, lawPc_some e]
    rw [ih]
theorem p_read_eq {T : List Nat} (h : Plain T) : p_read [.s T] = some (if okT T = true then .d (.l ((lns T).map lawPc)) else .e 7) := by
  unfold p_read
  rw [fnD1]
  have hbig : 1000000 ≤ big := by unfold big; omega
  have hlen := h.len
  have hcnt := spl_cnt (s := 10) T []
  have hsp : gSplit T (.s [10]) = some (.f ((TL.spl [10] 0 [] T).map .s)) := by rw [gSplit_s, if_pos ⟨by simp, by simp, by omega⟩]
  have hlast := gLast (T := T)
  have hend := last_end T
  have hcut : gCut (.l ((TL.spl [10] 0 [] T).map PV.s)) none (some (-1)) = some (.f ((lns T).map PV.s)) := by
    rw [gCut_l, cutP_0m1, List.map_dropLast]
  have hgl : gLen (.l ((TL.spl [10] 0 [] T).map PV.s)) = some (.d (.i ((TL.spl [10] 0 [] T).length : Nat))) := by
    rw [gLen_l]
    simp
  have hi : ¬ (2001 : Int) < ((TL.spl [10] 0 [] T).length : Nat) := by omega
  have hll : ∀ l ∈ lns T, l.length ≤ 300 := fun l hl => by
    have := spl_len (s := 10) T [] l (List.dropLast_subset _ hl)
    simp at this
    omega
  have hsg : ∀ l ∈ lns T, l.all isSign = true := fun l hl => List.all_eq_true.mpr fun c hc => by
    rcases spl_sub (s := 10) T [] l (List.dropLast_subset _ hl) c hc with z | ⟨z, z2⟩
    · cases z
    · exact (h.chr c z).resolve_right z2
  have hlc : (lns T).length ≤ 1000 := by simp; omega
  unfold okT
  generalize (TL.spl [10] 0 [] T).getLast?.getD [] = lst at *
  generalize lns T = S at *
  generalize (TL.spl [10] 0 [] T).map PV.s = R at *
  generalize (TL.spl [10] 0 [] T).length = rl at *
  have hb1 : (S.map PV.s).length ≤ big := by simp; omega
  have e1 : lcGoX (tgN 3) cYes b1_p_read [.d (.s T), .d (.l R), .u, .u, .u] (S.map PV.s) [] = some (if S.all (fun l => ((pieceC l).map pcPV).isSome) = true then .f ([] ++ S.filterMap fun l => (pieceC l).map pcPV) else .e 7) :=
    lcGoX_map (w := fun l => (pieceC l).map pcPV) (fun l hl => ⟨_, rfl, by
      have := p_piece_of_eq (hll l hl)
      cases e : pieceC l with
      | none =>
        rw [e] at this
        simp [b1_p_read, this]
      | some x =>
        rw [e] at this
        simp [b1_p_read, this]⟩) []
  cases hE : endB T with
  | false =>
    rw [hE] at hend
    simp [-gSplit_s, -gIdx_l, -gCut_l, -gLen_l, b_p_read, isS, hsp, hlast, hend]
  | true =>
    rw [hE] at hend
    by_cases ha : S.all (fun l => ((pieceC l).map pcPV).isSome) = true
    · rw [if_pos ha] at e1
      have hx : ∀ l ∈ S, ∃ x, pieceC l = some x := fun l hl => by
        have := List.all_eq_true.mp ha l hl
        cases e : pieceC l with
        | none => rw [e] at this; cases this
        | some x => exact ⟨x, rfl⟩
      have hfm := fm_law hx
      rw [List.nil_append, hfm] at e1
      have e2 : lcGo (tgN 4) cYes b2_p_read [.d (.s T), .d (.l R), .d (.l (S.map lawPc)), .u, .u] (S.map lawPc) [] = some ([] ++ S.map fun l => PV.b (okB l)) :=
        lcGo_map (m := lawPc) (w := fun l => PV.b (okB l)) (fun l hl => ⟨_, rfl, rfl, by
          obtain ⟨x, e⟩ := hx l hl
          have := p_is_piece_neB (x := x) fun cs hcs => by
            subst hcs
            have e3 := pieceC_signs e
            have h1 := hll l hl
            have h2 := List.all_eq_true.mp (hsg l hl)
            subst e3
            refine ⟨by simp; omega, List.all_eq_true.mpr fun c hc => h2 c (List.mem_of_mem_drop hc)⟩
          simp [b2_p_read, lawPc_some e, this, okB, e]⟩) []
      have hb2 : (S.map lawPc).length ≤ big := by simp; omega
      have hall : (S.map okB).all id = S.all okB := by rw [List.all_map]; rfl
      have hbl := blsOf_map' okB (L := S)
      generalize S.map lawPc = G at *
      generalize S.map PV.s = G2 at *
      cases hok : S.all okB <;> simp [-gSplit_s, -gIdx_l, -gCut_l, -gLen_l, b_p_read, isS, hsp, hlast, hend, hcut, hgl, hb1, e1, hb2, e2, hi, hbl, hall, hok]
    · rw [if_neg ha] at e1
      have hok : S.all okB = false := by
        rw [Bool.eq_false_iff]
        intro hk
        refine ha (List.all_eq_true.mpr fun l hl => ?_)
        have := List.all_eq_true.mp hk l hl
        unfold okB at this
        cases e : pieceC l with
        | none => rw [e] at this; cases this
        | some x => rfl
      generalize S.map PV.s = G2 at *
      simp [-gSplit_s, -gIdx_l, -gCut_l, -gLen_l, b_p_read, isS, hsp, hlast, hend, hcut, hgl, hb1, e1, hi, hok]
theorem p_read_no {v : PV} (h : isS v = false) : p_read [v] = some (.e 7) := by
  unfold p_read
  rw [fnD1]
  simp [b_p_read, h]
theorem q_due_no {v : PV} (h : isS v = false) : q_due [v] = some (.d .n) := by
  unfold q_due
  rw [fnD1]
  simp [b_q_due, h]
theorem q_due_eq {T : List Nat} (h : Plain T) : q_due [.s T] = some (.d (if okT T = true then .l ((lns T).map lawPc) else .n)) := by
  unfold q_due
  rw [fnD1]
  have hbig : 1000000 ≤ big := by unfold big; omega
  have hlen := h.len
  have hbl : T.length ≤ big := by omega
  have hcnt := spl_cnt (s := 10) T []
  have hsp : gSplit T (.s [10]) = some (.f ((TL.spl [10] 0 [] T).map .s)) := by rw [gSplit_s, if_pos ⟨by simp, by simp, by omega⟩]
  have hcut : gCut (.l ((TL.spl [10] 0 [] T).map PV.s)) none (some (-1)) = some (.f ((lns T).map PV.s)) := by
    rw [gCut_l, cutP_0m1, List.map_dropLast]
  have hll : ∀ l ∈ lns T, l.length ≤ 300 := fun l hl => by
    have := spl_len (s := 10) T [] l (List.dropLast_subset _ hl)
    simp at this
    omega
  have hlc : (lns T).length ≤ 1000 := by simp; omega
  unfold okT
  generalize lns T = S at *
  generalize (TL.spl [10] 0 [] T).map PV.s = R at *
  have hb1 : (S.map PV.s).length ≤ big := by simp; omega
  have e1 : lcGo (tgN 2) cYes b1_q_due [.d (.s T), .u, .u] (S.map PV.s) [] = some ([] ++ S.map lawPc) :=
    lcGo_map (m := PV.s) (w := lawPc) (fun l hl => ⟨_, rfl, rfl, by simp [b1_q_due, q_piece_eq (hll l hl)]⟩) []
  have e2 := q_letter_law (S := S) (by omega)
  rw [List.nil_append] at e1
  generalize S.map lawPc = G at *
  generalize S.map PV.s = G2 at *
  cases T with
  | nil => cases hok : S.all okB <;> simp [-gSplit_s, -gCut_l, b_q_due, isS, endB, hsp, hcut, hb1, e1, e2, hok]
  | cons c r =>
    have hx : (c :: r).getLast? = some ((c :: r).getLast (by simp)) := List.getLast?_eq_some_getLast (by simp)
    have hix : gIdx (.s (c :: r)) (.i (-1)) = some (.d (.s [(c :: r).getLast (by simp)])) := by
      rw [gIdx_s, if_pos hbl, atI_m1, hx]
      rfl
    have hE : endB (c :: r) = ((c :: r).getLast (by simp) == 10) := by
      unfold endB
      rw [hx]
      simp
    rw [hE]
    generalize (c :: r).getLast (by simp) = y at *
    by_cases hy : y = 10
    · have hz : (y == 10) = true := by simp [hy]
      have hz2 : ([y] == [10]) = true := by simp [hy]
      cases hok : S.all okB <;> simp [-gSplit_s, -gIdx_s, -gCut_l, b_q_due, isS, hsp, hcut, hb1, e1, e2, hok, hix, hz2, hy]
    · have hz : (y == 10) = false := by simp [hy]
      have hz2 : ([y] == [10]) = false := by simp [hy]
      simp [-gSplit_s, -gIdx_s, b_q_due, isS, hix, hz, hz2, hy]
end DD
/-! k17 -/
namespace DD
open PySem PySem.Spec L2
def b_q_spoilt : CS := (cSeq (cAsg 2 (c2 gMod (cV 1) (c2 gAdd (c1 gLen (cV 0)) (cK (.i 1)))))
    (cSeq (cAsg 3 (c2 gIdx (cK (.s [32, 10, 48, 49, 50, 51, 52, 53, 54, 55, 56, 57, 99, 111, 112, 121, 115, 105, 103, 110, 97, 98, 45, 43, 46])) (c2 gMod (c2 gDiv (cV 1) (cK (.i 100))) (cK (.i 24)))))
    (cSeq (cAsg 4 (c2 gMod (c2 gDiv (cV 1) (cK (.i 2400))) (cK (.i 6))))
    (cSeq (cIf (c2 gEq (cV 4) (cK (.i 0)))
    (cRet (c2 gAdd (c2 gAdd (cSl (cV 0) none (some (cV 2))) (cV 3)) (cSl (cV 0) (some (cV 2)) none)))
    cNext)
    (cSeq (cIf (c2 gEq (cV 4) (cK (.i 1)))
    (cRet (c2 gAdd (cSl (cV 0) none (some (cV 2))) (cSl (cV 0) (some (c2 gAdd (cV 2) (cK (.i 1)))) none)))
    cNext)
    (cSeq (cIf (c2 gEq (cV 4) (cK (.i 2)))
    (cRet (c2 gAdd (c2 gAdd (cSl (cV 0) none (some (cV 2))) (cV 3)) (cSl (cV 0) (some (c2 gAdd (cV 2) (cK (.i 1)))) none)))
    cNext)
    (cSeq (cIf (c2 gEq (cV 4) (cK (.i 3)))
    (cRet (c2 gAdd (cV 0) (c2 gIdx (cLst [(cK (.s [115, 105, 103, 110, 115, 32, 10])), (cK (.s [99, 111, 112, 121, 32, 48, 32, 48, 10])), (cK (.s [99, 111, 112, 121, 32, 48, 49, 32, 50, 10])), (cK (.s [115, 105, 103, 110, 115, 32, 32, 10])), (cK (.s [99, 111, 112, 121, 32, 49, 10])), (cK (.s [10])), (cK (.s [99, 111, 112, 121, 32, 45, 49, 32, 50, 10]))]) (c2 gMod (cV 1) (cK (.i 7))))))
    cNext)
    (cSeq (cIf (c2 gEq (cV 4) (cK (.i 4)))
    (cRet (c2 gAdd (cV 0) (cV 0)))
    cNext)
    (cRet (c2 gIdx (cLst [(cK .n), (cK (.i 5)), (cLst [(cV 0)]), (cSl (cV 0) none (some (c1 gNeg (cK (.i 1))))), (cK (.s [115, 105, 103, 110, 115, 32, 97])), (cK (.s [99, 111, 112, 121, 32, 49, 32, 50, 32, 51, 10]))]) (c2 gMod (cV 1) (cK (.i 6)))))))))))))
def q_spoilt : List PV → Option ER := fnD 2 5 b_q_spoilt
def tb_MendError : Err → Option Bool := fun c => if c = 7 then some true else none
def tb_NoLetter : Err → Option Bool := fun c => if c = 7 then some false else none
def tb_ValueError : Err → Option Bool := fun c => if c = 7 then some true else none
def mt_NoLines : Err → Option Bool := fun c => if c = 7 then some true else none
def b_law : CS := (cSeq (cAsg 1 (cCall q_spoilt [(cCall q_lines [(cCall q_letter [(cV 0), (cK (.i 1)), (cK (.i 20)), (cK (.i 4))])]), (cCall q_mixed [(cV 0), (cK (.i 0)), (c2 gPow (cK (.i 10)) (cK (.i 6)))])]))
    (cSeq (cAsg 2 (cK .n))
    (cSeq (cTry 3 mt_NoLines (cAsg 2 (cCall p_read [(cV 1)]))
    (cIf (cOr (cNot (cIsX 3 tb_MendError)) (cOr (cNot (cIsX 3 tb_ValueError)) (cIsX 3 tb_NoLetter)))
    (cRet (cK (.b false)))
    cNext))
    (cRet (c2 gEq (cV 2) (cCall q_due [(cV 1)]))))))
def law : List PV → Option ER := fnD 1 4 b_law
theorem gAddS {a b : List Nat} (h : a.length + b.length ≤ big) : gAdd (.s a) (.s b) = some (.d (.s (a ++ b))) := by rw [gAdd_s, if_pos h]
theorem b1_lines {x : Pc} (h : okN x) {a s : Sl1} : b1_q_lines [a, .d (pcPV x), s] = some (.d (.s (lineC x))) := by
  have hbig : 1000000 ≤ big := by unfold big; omega
  cases x with
  | sg cs =>
    have h1 : cs.length ≤ 2000 := h
    have hb : 5 + (cs.length + (0 + 1)) + 1 ≤ big := by omega
    simp [b1_q_lines, b2_q_lines, lcGo_cons, lcS, strsOf, TL.joinL]
    rw [if_pos (by simp [lensum]; omega)]
    simp only [e1_d, gAdd_s]
    rw [if_pos (by simp; omega)]
    simp [lineC, lineB]
  | cp p n =>
    obtain ⟨h1, h2⟩ := h
    have l1 := num_len h1
    have l2 := num_len h2
    simp [b1_q_lines, b2_q_lines, lcGo_cons, lcS, strsOf, TL.joinL, h1, h2]
    rw [if_pos (by simp [lensum]; omega)]
    simp only [e1_d, gAdd_s]
    rw [if_pos (by simp; omega)]
    simp [lineC, lineB]
theorem q_lines_eq {L : List Pc} (hl : L.length ≤ 100) (h : ∀ x ∈ L, okN x) : q_lines [.l (letPV L)] = some (.d (.s (linesC L))) := by
  unfold q_lines
  rw [fnD1]
  have hbig : 1000000 ≤ big := by unfold big; omega
  have hb : L.length ≤ big := by omega
  have e : lcGo (tgN 1) cYes b1_q_lines [.d (.l (letPV L)), .u, .u] (letPV L) [] = some ([] ++ L.map fun x => PV.s (lineC x)) :=
    lcGo_map (m := pcPV) (w := fun x => PV.s (lineC x)) (fun x hx => ⟨_, rfl, rfl, by simp [b1_lines (h x hx)]⟩) []
  have hs : strsOf (L.map fun x => PV.s (lineC x)) = some (L.map lineC) := by
    rw [← strsOf_map, List.map_map]
    rfl
  have hll := lines_len h
  have hle : lensum (L.map lineC) ≤ big := by rw [lensum_flat]; show (linesC L).length ≤ big; omega
  have hb3 : (letPV L).length ≤ big := by simpa using hb
  generalize letPV L = G at *
  simp [b_q_lines, hb3, e]
  rw [hs]
  simp [joinL_nil, hle]
/-! ### a text spoilt -/
structure Few (T : List Nat) : Prop where
  len : T.length ≤ 50
  chr : ∀ c ∈ T, isSign c = true ∨ c = 10
def Shape (v : PV) : Prop := (∃ T, v = .s T ∧ Plain T) ∨ isS v = false
def oddS : List Nat := [32, 10, 48, 49, 50, 51, 52, 53, 54, 55, 56, 57, 99, 111, 112, 121, 115, 105, 103, 110, 97, 98, 45, 43, 46]
theorem oddS_ok : ∀ c ∈ oddS, isSign c = true ∨ c = 10 := by decide +kernel
theorem Few.plain {T X : List Nat} (h : Few T) (hl : X.length ≤ 200) (hc : ∀ c ∈ X, c ∈ T ∨ isSign c = true ∨ c = 10) : Plain X := ⟨hl, fun c h1 => (hc c h1).elim (fun z => h.chr c z) id⟩
theorem mem_six {i : Nat} (h : i < 6) : i = 0 ∨ i = 1 ∨ i = 2 ∨ i = 3 ∨ i = 4 ∨ i = 5 := by omega
theorem mem_seven {i : Nat} (h : i < 7) : i = 0 ∨ i = 1 ∨ i = 2 ∨ i = 3 ∨ i = 4 ∨ i = 5 ∨ i = 6 := by omega
theorem atI_nat {α : Type} {l : List α} {n : Nat} : L2.atI l (n : Int) = l[n]? := by
  rw [atI_nn (by omega)]
  rfl
def seven : List (List Nat) := [[115, 105, 103, 110, 115, 32, 10], [99, 111, 112, 121, 32, 48, 32, 48, 10], [99, 111, 112, 121, 32, 48, 49, 32, 50, 10], [115, 105, 103, 110, 115, 32, 32, 10], [99, 111, 112, 121, 32, 49, 10], [10], [99, 111, 112, 121, 32, 45, 49, 32, 50, 10]]
theorem seven_ok : ∀ X ∈ seven, X.length ≤ 20 ∧ ∀ c ∈ X, isSign c = true ∨ c = 10 := by decide +kernel
theorem q_spoilt_eq {T : List Nat} (h : Few T) (cell : Nat) : ∃ v, q_spoilt [.s T, .i cell] = some (.d v) ∧ Shape v := by
  unfold q_spoilt
  rw [fnD2]
  have hbig : 1000000 ≤ big := by unfold big; omega
  have hlen := h.len
  have hb : T.length ≤ big := by omega
  have ea : gMod (.i cell) (.i ((T.length : Int) + 1)) = some (.d (.i ((cell % (T.length + 1) : Nat) : Int))) := by
    rw [gMod_i, if_pos (by omega)]
    simp
  have ha : cell % (T.length + 1) < T.length + 1 := Nat.mod_lt _ (by omega)
  have ew : gMod (.i ((cell : Int) / 2400)) (.i 6) = some (.d (.i ((cell / 2400 % 6 : Nat) : Int))) := by
    rw [gMod_i, if_pos (by omega)]
    simp
  have hw : cell / 2400 % 6 < 6 := Nat.mod_lt _ (by omega)
  have es : gMod (.i ((cell : Int) / 100)) (.i 24) = some (.d (.i ((cell / 100 % 24 : Nat) : Int))) := by
    rw [gMod_i, if_pos (by omega)]
    simp
  have hs : cell / 100 % 24 < 24 := Nat.mod_lt _ (by omega)
  have e7 : gMod (.i (cell : Int)) (.i 7) = some (.d (.i ((cell % 7 : Nat) : Int))) := by
    rw [gMod_i, if_pos (by omega)]
    simp
  have h7 : cell % 7 < 7 := Nat.mod_lt _ (by omega)
  have e6 : gMod (.i (cell : Int)) (.i 6) = some (.d (.i ((cell % 6 : Nat) : Int))) := by
    rw [gMod_i, if_pos (by omega)]
    simp
  have h6 : cell % 6 < 6 := Nat.mod_lt _ (by omega)
  generalize cell % (T.length + 1) = at_ at *
  generalize cell / 2400 % 6 = way at *
  generalize cell / 100 % 24 = si at *
  generalize cell % 7 = s7 at *
  generalize cell % 6 = s6 at *
  obtain ⟨ch, hch, hch2⟩ : ∃ ch, oddS[si]? = some ch ∧ ch ∈ oddS := by
    have hl : si < oddS.length := by show si < 25; omega
    exact ⟨oddS[si], List.getElem?_eq_getElem hl, List.getElem_mem hl⟩
  have hcok := oddS_ok ch hch2
  have esg : gIdx (.s [32, 10, 48, 49, 50, 51, 52, 53, 54, 55, 56, 57, 99, 111, 112, 121, 115, 105, 103, 110, 97, 98, 45, 43, 46]) (.i (si : Int)) = some (.d (.s [ch])) := by
    rw [gIdx_s, if_pos (by simp; omega), atI_nat]
    change (oddS[si]?).map _ = _
    rw [hch]
    rfl
  have t1 : cutP T none (some (at_ : Int)) = T.take at_ := cutP_0n (by omega)
  have t2 : cutP T (some (at_ : Int)) none = T.drop at_ := cutP_n0 (by omega)
  have t3 : cutP T (some ((at_ : Int) + 1)) none = T.drop (at_ + 1) := cutP_n0 (by omega)
  have t4 : cutP T none (some (-1)) = T.dropLast := cutP_0m1
  have m1 : ∀ c ∈ T.take at_, c ∈ T := fun c hc => List.mem_of_mem_take hc
  have m2 : ∀ c ∈ T.drop at_, c ∈ T := fun c hc => List.mem_of_mem_drop hc
  have m3 : ∀ c ∈ T.drop (at_ + 1), c ∈ T := fun c hc => List.mem_of_mem_drop hc
  have l1 : (T.take at_).length ≤ 50 := by simp; omega
  have l2 : (T.drop at_).length ≤ 50 := by simp; omega
  have l3 : (T.drop (at_ + 1)).length ≤ 50 := by simp; omega
  have l4 : T.dropLast.length ≤ 50 := by simp; omega
  have m4 : ∀ c ∈ T.dropLast, c ∈ T := fun c hc => List.dropLast_subset _ hc
  obtain ⟨X, hX, hX2⟩ : ∃ X, seven[s7]? = some X ∧ X ∈ seven := by
    have hl : s7 < seven.length := by show s7 < 7; omega
    exact ⟨seven[s7], List.getElem?_eq_getElem hl, List.getElem_mem hl⟩
  obtain ⟨x1, x2⟩ := seven_ok X hX2
  have eX : gIdx (.l [.s [115, 105, 103, 110, 115, 32, 10], .s [99, 111, 112, 121, 32, 48, 32, 48, 10], .s [99, 111, 112, 121, 32, 48, 49, 32, 50, 10], .s [115, 105, 103, 110, 115, 32, 32, 10], .s [99, 111, 112, 121, 32, 49, 10], .s [10], .s [99, 111, 112, 121, 32, 45, 49, 32, 50, 10]]) (.i (s7 : Int)) = some (.d (.s X)) := by
    rw [gIdx_l, atI_nat]
    change ((seven.map PV.s)[s7]?).map _ = _
    rw [List.getElem?_map, hX]
    rfl
  generalize hA : T.take at_ = A at *
  generalize hB : T.drop at_ = B at *
  generalize hC : T.drop (at_ + 1) = C at *
  generalize hD : T.dropLast = D at *
  have b1 : A.length + [ch].length ≤ big := by simp; omega
  have b2 : (A ++ [ch]).length + B.length ≤ big := by simp; omega
  have b3 : A.length + C.length ≤ big := by omega
  have b4 : (A ++ [ch]).length + C.length ≤ big := by simp; omega
  have b5 : T.length + X.length ≤ big := by omega
  have b6 : T.length + T.length ≤ big := by omega
  have h67 : 7 ≤ big := by omega
  have h68 : 6 ≤ big := by omega
  have h69 : 1 ≤ big := by omega
  rcases mem_six hw with rfl | rfl | rfl | rfl | rfl | rfl
  · refine ⟨.s (A ++ [ch] ++ B), ?_, .inl ⟨_, rfl, h.plain (by simp; omega) fun c hc => ?_⟩⟩
    · simp [-gMod_i, -gIdx_s, -gAdd_s, b_q_spoilt, ea, ew, es, esg, hb, t1, t2, gAddS b1, gAddS b2]
    · simp only [List.mem_append, List.mem_singleton] at hc
      rcases hc with (hc | hc) | hc
      · exact .inl (m1 c hc)
      · subst hc
        exact .inr hcok
      · exact .inl (m2 c hc)
  · refine ⟨.s (A ++ C), ?_, .inl ⟨_, rfl, h.plain (by simp; omega) fun c hc => ?_⟩⟩
    · simp [-gMod_i, -gIdx_s, -gAdd_s, b_q_spoilt, ea, ew, es, esg, hb, t1, t3, gAddS b3]
    · rcases (List.mem_append.mp hc) with hc | hc
      · exact .inl (m1 c hc)
      · exact .inl (m3 c hc)
  · refine ⟨.s (A ++ [ch] ++ C), ?_, .inl ⟨_, rfl, h.plain (by simp; omega) fun c hc => ?_⟩⟩
    · simp [-gMod_i, -gIdx_s, -gAdd_s, b_q_spoilt, ea, ew, es, esg, hb, t1, t3, gAddS b1, gAddS b4]
    · simp only [List.mem_append, List.mem_singleton] at hc
      rcases hc with (hc | hc) | hc
      · exact .inl (m1 c hc)
      · subst hc
        exact .inr hcok
      · exact .inl (m3 c hc)
  · refine ⟨.s (T ++ X), ?_, .inl ⟨_, rfl, h.plain (by simp; omega) fun c hc => ?_⟩⟩
    · simp [-gMod_i, -gIdx_s, -gIdx_l, -gAdd_s, b_q_spoilt, ea, ew, es, esg, hb, e7, eX, h67, gAddS b5]
    · rcases (List.mem_append.mp hc) with hc | hc
      · exact .inl hc
      · exact .inr (x2 c hc)
  · refine ⟨.s (T ++ T), ?_, .inl ⟨_, rfl, h.plain (by simp; omega) fun c hc => ?_⟩⟩
    · simp [-gMod_i, -gIdx_s, -gAdd_s, b_q_spoilt, ea, ew, es, esg, hb, gAddS b6]
    · rcases (List.mem_append.mp hc) with hc | hc
      · exact .inl hc
      · exact .inl hc
  · have fixd : ∀ v : PV, [PV.n, .i 5, .l [.s T], .s D, .s [115, 105, 103, 110, 115, 32, 97], .s [99, 111, 112, 121, 32, 49, 32, 50, 32, 51, 10]][s6]? = some v → Shape v := by
      intro v hv
      rcases mem_six h6 with rfl | rfl | rfl | rfl | rfl | rfl <;> cases hv
      · exact .inr rfl
      · exact .inr rfl
      · exact .inr rfl
      · exact .inl ⟨_, rfl, h.plain (by omega) fun c hc => .inl (m4 c hc)⟩
      · exact .inl ⟨_, rfl, by decide, by decide +kernel⟩
      · exact .inl ⟨_, rfl, by decide, by decide +kernel⟩
    obtain ⟨v, hv⟩ : ∃ v, [PV.n, .i 5, .l [.s T], .s D, .s [115, 105, 103, 110, 115, 32, 97], .s [99, 111, 112, 121, 32, 49, 32, 50, 32, 51, 10]][s6]? = some v := ⟨_, List.getElem?_eq_getElem (by simp; omega)⟩
    refine ⟨v, ?_, fixd v hv⟩
    have ev : gIdx (.l [.n, .i 5, .l [.s T], .s D, .s [115, 105, 103, 110, 115, 32, 97], .s [99, 111, 112, 121, 32, 49, 32, 50, 32, 51, 10]]) (.i (s6 : Int)) = some (.d v) := by
      rw [gIdx_l, atI_nat, hv]
      rfl
    simp [-gMod_i, -gIdx_s, -gIdx_l, b_q_spoilt, ea, ew, es, esg, hb, e6, t4, ev, h68, h69]
/-! ### the law -/
theorem pow_10_6 : gPow (.i 10) (.i 6) = some (.d (.i 1000000)) := by
  rw [gPow_i, if_pos (by unfold CPow; decide)]
  rfl
def t_law : CS := (cSeq (cAsg 2 (cK .n))
    (cSeq (cTry 3 mt_NoLines (cAsg 2 (cCall p_read [(cV 1)]))
    (cIf (cOr (cNot (cIsX 3 tb_MendError)) (cOr (cNot (cIsX 3 tb_ValueError)) (cIsX 3 tb_NoLetter)))
    (cRet (cK (.b false)))
    cNext))
    (cRet (c2 gEq (cV 2) (cCall q_due [(cV 1)])))))
theorem t_law_eq : b_law = (cSeq (cAsg 1 (cCall q_spoilt [(cCall q_lines [(cCall q_letter [(cV 0), (cK (.i 1)), (cK (.i 20)), (cK (.i 4))])]), (cCall q_mixed [(cV 0), (cK (.i 0)), (c2 gPow (cK (.i 10)) (cK (.i 6)))])]))
    t_law) := rfl
theorem law_from {ns : List Int} {v : PV} (h : Shape v) : fin (t_law [.d (.z ns), .d v, .u, .u]) = some (.d (.b true)) := by
  have gn : gEq .n .n = some (.d (.b true)) := by
    rw [gEq_l (by simp) (by simp), eqv_refl]
  have no : ∀ w : PV, p_read [w] = some (.e 7) → q_due [w] = some (.d .n) → fin (t_law [.d (.z ns), .d w, .u, .u]) = some (.d (.b true)) := fun w h1 h2 => by
    simp [t_law, cTry_ap, h1]
    rw [trO_ex rfl rfl]
    simp [tb_MendError, tb_ValueError, tb_NoLetter, h2, gn, noX, Sl1.isX]
  rcases h with ⟨T, rfl, hT⟩ | h
  · have h1 := p_read_eq hT
    have h2 := q_due_eq hT
    cases hok : okT T with
    | false =>
      rw [hok] at h1 h2
      exact no _ h1 h2
    | true =>
      rw [hok, if_pos rfl] at h1 h2
      have hd : deps ((lns T).map lawPc) ≤ 1 := deps_map dep_law _
      have g1 : gEq (.l ((lns T).map lawPc)) (.l ((lns T).map lawPc)) = some (.d (.b true)) := by
        rw [gEq_l (by rw [dep_l]; omega) (by rw [dep_l]; omega), eqv_refl]
      generalize (lns T).map lawPc = G at *
      simp [t_law, cTry_ap, h1, h2, g1]
  · exact no _ (p_read_no h) (q_due_no h)
theorem law_plain (ns : List Int) : law [.z ns] = some (.d (.b true)) := by
  unfold law
  rw [fnD1, t_law_eq]
  have hm0 := q_mixed_eq ns (k := 0) (many := 1000000) (by decide) (by decide)
  have r0 := mixed_nn (ns := ns) (k := 0) (many := 1000000) (by decide)
  have hq := q_letter_eq (ns := ns) (at_ := 1) (size := 20) (most := 4) (by omega) (by omega) (by omega)
  have hok := letterC_ok (ns := ns) (at_ := 1) (size := 20) (most := 4)
  have hl := letterC_len (ns := ns) (at_ := 1) (size := 20) (most := 4)
  simp only [show ((1 : Nat) : Int) = 1 from rfl, show ((20 : Nat) : Int) = 20 from rfl, show ((4 : Nat) : Int) = 4 from rfl] at hq
  generalize letterC ns 1 20 4 = L at *
  have hlim : (1000 : Nat) < numLim := by decide +kernel
  have o2 : ∀ x ∈ L, okN x := fun x hx => by
    have := hok x hx
    cases x with
    | sg cs => have := this.2.1; show cs.length ≤ 2000; omega
    | cp p n => have := this.2; exact ⟨by omega, by omega⟩
  have two : ∀ n : Nat, n ≤ 20 → (TL.numL n).length ≤ 2 := fun n hn => TL.numL_len (by decide) (Nat.lt_of_le_of_lt hn (by decide))
  have o4 : ∀ x ∈ L, (lineC x).length ≤ 11 ∧ ∀ c ∈ lineC x, isSign c = true ∨ c = 10 := fun x hx => by
    have h := hok x hx
    cases x with
    | sg cs =>
      obtain ⟨h1, h2, h3⟩ := h
      refine ⟨by simp [lineC, lineB]; omega, fun c hc => ?_⟩
      rcases (List.mem_append.mp hc) with hc | hc
      · rcases (List.mem_append.mp hc) with hc | hc
        · exact .inl ((by decide : ∀ c ∈ [115, 105, 103, 110, 115, 32], isSign c = true) c hc)
        · exact .inl (List.all_eq_true.mp h3 c hc)
      · exact .inr (by simpa using hc)
    | cp p n =>
      obtain ⟨h1, h2⟩ := h
      have d1 := two p (by omega)
      have d2 := two n (by omega)
      have dg : ∀ m c, c ∈ TL.numL m → isSign c = true := fun m c hc => by
        have := TL.numL_digits m c hc
        obtain ⟨z1, z2⟩ := this
        unfold isSign
        simp
        omega
      refine ⟨by simp [lineC, lineB]; omega, fun c hc => ?_⟩
      simp [lineC, lineB] at hc
      rcases hc with rfl | rfl | rfl | rfl | rfl | hc | rfl | hc | rfl
      · exact .inl rfl
      · exact .inl rfl
      · exact .inl rfl
      · exact .inl rfl
      · exact .inl rfl
      · exact .inl (dg _ _ hc)
      · exact .inl rfl
      · exact .inl (dg _ _ hc)
      · exact .inr rfl
  have flat : ∀ M : List Pc, (∀ x ∈ M, x ∈ L) → (linesC M).length ≤ 11 * M.length ∧ ∀ c ∈ linesC M, isSign c = true ∨ c = 10 := by
    intro M
    induction M with
    | nil => intro _; exact ⟨by simp, fun c hc => by simp at hc⟩
    | cons x M ih =>
      intro hM
      obtain ⟨i1, i2⟩ := ih fun y hy => hM y (by simp [hy])
      obtain ⟨j1, j2⟩ := o4 x (hM x (by simp))
      have e : linesC (x :: M) = lineC x ++ linesC M := by simp [linesC]
      rw [e]
      refine ⟨by rw [List.length_append, List.length_cons]; omega, fun c hc => ?_⟩
      rcases (List.mem_append.mp hc) with hc | hc
      · exact j2 c hc
      · exact i2 c hc
  obtain ⟨f1, f2⟩ := flat L fun _ h => h
  have hql := q_lines_eq (L := L) (by omega) o2
  obtain ⟨m, hm⟩ : ∃ m : Nat, mixed ns 0 1000000 = (m : Int) := ⟨_, (Int.toNat_of_nonneg r0.1).symm⟩
  rw [hm] at hm0
  obtain ⟨v, hv, hsh⟩ := q_spoilt_eq (T := linesC L) ⟨by omega, f2⟩ m
  have key := law_from (ns := ns) hsh
  generalize letPV L = G at *
  generalize linesC L = T at *
  generalize t_law = rest at *
  simp [hq, hql, pow_10_6, hm0, hv]
  exact key
end DD
namespace DD
open PySem PySem.Spec L2

def topS (i : Nat) : Stmt := PySem.Challenge.pw_rollmend_k17_lines_refused.main.body.getD i (.Pass ⟨0, 0, 0, 0⟩)
abbrev s_p_is_whole : Stmt := topS 6
abbrev n_p_is_whole : List Str := ["thing"]
theorem sc_p_is_whole : FnScope n_p_is_whole ["thing"] (defScope s_p_is_whole) := ⟨rfl, rfl, rfl, by decide +kernel, rfl, by decide +kernel, by decide +kernel⟩
abbrev s_p_worth : Stmt := topS 7
abbrev n_p_worth : List Str := ["sign"]
theorem sc_p_worth : FnScope n_p_worth ["sign"] (defScope s_p_worth) := ⟨rfl, rfl, rfl, by decide +kernel, rfl, by decide +kernel, by decide +kernel⟩
abbrev s_p_lnumber_of : Stmt := topS 14
abbrev n_p_lnumber_of : List Str := ["figures", "sign"]
theorem sc_p_lnumber_of : FnScope n_p_lnumber_of ["figures"] (defScope s_p_lnumber_of) := ⟨rfl, rfl, rfl, by decide +kernel, rfl, by decide +kernel, by decide +kernel⟩
abbrev s_q_cell_at : Stmt := topS 18
abbrev n_q_cell_at : List Str := ["_law_script", "_law_k"]
theorem sc_q_cell_at : FnScope n_q_cell_at ["_law_script", "_law_k"] (defScope s_q_cell_at) := ⟨rfl, rfl, rfl, by decide +kernel, rfl, by decide +kernel, by decide +kernel⟩
abbrev s_q_whole : Stmt := topS 22
abbrev n_q_whole : List Str := ["_law_found"]
theorem sc_q_whole : FnScope n_q_whole ["_law_found"] (defScope s_q_whole) := ⟨rfl, rfl, rfl, by decide +kernel, rfl, by decide +kernel, by decide +kernel⟩
abbrev s_q_lines : Stmt := topS 25
abbrev n_q_lines : List Str := ["_law_letter_here", "_law_piece_here", "_law_part"]
theorem sc_q_lines : FnScope n_q_lines ["_law_letter_here"] (defScope s_q_lines) := ⟨rfl, rfl, rfl, by decide +kernel, rfl, by decide +kernel, by decide +kernel⟩
abbrev s_q_spoilt : Stmt := topS 26
abbrev n_q_spoilt : List Str := ["_law_text_here", "_law_cell", "_law_at", "_law_sign", "_law_way"]
theorem sc_q_spoilt : FnScope n_q_spoilt ["_law_text_here", "_law_cell"] (defScope s_q_spoilt) := ⟨rfl, rfl, rfl, by decide +kernel, rfl, by decide +kernel, by decide +kernel⟩
abbrev s_q_number : Stmt := topS 27
abbrev n_q_number : List Str := ["_law_figures", "_law_sign"]
theorem sc_q_number : FnScope n_q_number ["_law_figures"] (defScope s_q_number) := ⟨rfl, rfl, rfl, by decide +kernel, rfl, by decide +kernel, by decide +kernel⟩
abbrev s_p_is_text : Stmt := topS 8
abbrev n_p_is_text : List Str := ["thing", "least", "most", "sign"]
theorem sc_p_is_text : FnScope n_p_is_text ["thing", "least", "most"] (defScope s_p_is_text) := ⟨rfl, rfl, rfl, by decide +kernel, rfl, by decide +kernel, by decide +kernel⟩
abbrev s_p_piece_of : Stmt := topS 15
abbrev n_p_piece_of : List Str := ["line", "parts"]
theorem sc_p_piece_of : FnScope n_p_piece_of ["line"] (defScope s_p_piece_of) := ⟨rfl, rfl, rfl, by decide +kernel, rfl, by decide +kernel, by decide +kernel⟩
abbrev s_q_mixed : Stmt := topS 19
abbrev n_q_mixed : List Str := ["_law_script", "_law_k", "_law_many", "_law_drawn"]
theorem sc_q_mixed : FnScope n_q_mixed ["_law_script", "_law_k", "_law_many"] (defScope s_q_mixed) := ⟨rfl, rfl, rfl, by decide +kernel, rfl, by decide +kernel, by decide +kernel⟩
abbrev s_q_is_piece : Stmt := topS 23
abbrev n_q_is_piece : List Str := ["_law_piece_here"]
theorem sc_q_is_piece : FnScope n_q_is_piece ["_law_piece_here"] (defScope s_q_is_piece) := ⟨rfl, rfl, rfl, by decide +kernel, rfl, by decide +kernel, by decide +kernel⟩
abbrev s_q_piece : Stmt := topS 28
abbrev n_q_piece : List Str := ["_law_line", "_law_parts"]
theorem sc_q_piece : FnScope n_q_piece ["_law_line"] (defScope s_q_piece) := ⟨rfl, rfl, rfl, by decide +kernel, rfl, by decide +kernel, by decide +kernel⟩
abbrev s_p_is_piece : Stmt := topS 11
abbrev n_p_is_piece : List Str := ["thing"]
theorem sc_p_is_piece : FnScope n_p_is_piece ["thing"] (defScope s_p_is_piece) := ⟨rfl, rfl, rfl, by decide +kernel, rfl, by decide +kernel, by decide +kernel⟩
abbrev s_q_text : Stmt := topS 20
abbrev n_q_text : List Str := ["_law_script", "_law_at", "_law_most", "_law_signs", "_law_seed", "_law_made", "_law_k", "_law_drawn"]
theorem sc_q_text : FnScope n_q_text ["_law_script", "_law_at", "_law_most"] (defScope s_q_text) := ⟨rfl, rfl, rfl, by decide +kernel, rfl, by decide +kernel, by decide +kernel⟩
abbrev s_q_is_letter : Stmt := topS 24
abbrev n_q_is_letter : List Str := ["_law_thing", "_law_piece_here"]
theorem sc_q_is_letter : FnScope n_q_is_letter ["_law_thing"] (defScope s_q_is_letter) := ⟨rfl, rfl, rfl, by decide +kernel, rfl, by decide +kernel, by decide +kernel⟩
abbrev s_p_read : Stmt := topS 16
abbrev n_p_read : List Str := ["text", "lines", "made", "line", "piece"]
theorem sc_p_read : FnScope n_p_read ["text"] (defScope s_p_read) := ⟨rfl, rfl, rfl, by decide +kernel, rfl, by decide +kernel, by decide +kernel⟩
abbrev s_q_letter : Stmt := topS 21
abbrev n_q_letter : List Str := ["_law_script", "_law_at", "_law_size", "_law_most", "_law_made", "_law_k", "_law_place", "_law_text_here", "_law_first"]
theorem sc_q_letter : FnScope n_q_letter ["_law_script", "_law_at", "_law_size", "_law_most"] (defScope s_q_letter) := ⟨rfl, rfl, rfl, by decide +kernel, rfl, by decide +kernel, by decide +kernel⟩
abbrev s_q_due : Stmt := topS 29
abbrev n_q_due : List Str := ["_law_text_here", "_law_pieces", "_law_line"]
theorem sc_q_due : FnScope n_q_due ["_law_text_here"] (defScope s_q_due) := ⟨rfl, rfl, rfl, by decide +kernel, rfl, by decide +kernel, by decide +kernel⟩
abbrev s_law : Stmt := topS 30
abbrev n_law : List Str := ["_law_script", "_law_text_here", "_law_answer", "e"]
theorem sc_law : FnScope n_law ["_law_script"] (defScope s_law) := ⟨rfl, rfl, rfl, by decide +kernel, rfl, by decide +kernel, by decide +kernel⟩
structure Txt (K : PySem.W.Frag) (mg : Str → Option Value) (CA : EvC) : Prop where
  f_p_is_whole : FunAt K mg "is_whole" s_p_is_whole ["thing"]
  f_p_worth : FunAt K mg "worth" s_p_worth ["sign"]
  f_p_lnumber_of : FunAt K mg "number_of" s_p_lnumber_of ["figures"]
  f_q_cell_at : FunAt K mg "_law_cell_at" s_q_cell_at ["_law_script", "_law_k"]
  f_q_whole : FunAt K mg "_law_whole" s_q_whole ["_law_found"]
  f_q_lines : FunAt K mg "_law_lines" s_q_lines ["_law_letter_here"]
  f_q_spoilt : FunAt K mg "_law_spoilt" s_q_spoilt ["_law_text_here", "_law_cell"]
  f_q_number : FunAt K mg "_law_number" s_q_number ["_law_figures"]
  f_p_is_text : FunAt K mg "is_text" s_p_is_text ["thing", "least", "most"]
  f_p_piece_of : FunAt K mg "piece_of" s_p_piece_of ["line"]
  f_q_mixed : FunAt K mg "_law_mixed" s_q_mixed ["_law_script", "_law_k", "_law_many"]
  f_q_is_piece : FunAt K mg "_law_is_piece" s_q_is_piece ["_law_piece_here"]
  f_q_piece : FunAt K mg "_law_piece" s_q_piece ["_law_line"]
  f_p_is_piece : FunAt K mg "is_piece" s_p_is_piece ["thing"]
  f_q_text : FunAt K mg "_law_text" s_q_text ["_law_script", "_law_at", "_law_most"]
  f_q_is_letter : FunAt K mg "_law_is_letter" s_q_is_letter ["_law_thing"]
  f_p_read : FunAt K mg "read" s_p_read ["text"]
  f_q_letter : FunAt K mg "_law_letter" s_q_letter ["_law_script", "_law_at", "_law_size", "_law_most"]
  f_q_due : FunAt K mg "_law_due" s_q_due ["_law_text_here"]
  g_ValueError : mg "ValueError" = none
  g_all : mg "all" = none
  g_bool : mg "bool" = none
  g_int : mg "int" = none
  g_isinstance : mg "isinstance" = none
  g_len : mg "len" = none
  g_list : mg "list" = none
  g_ord : mg "ord" = none
  g_range : mg "range" = none
  g_str : mg "str" = none
  g_tuple : mg "tuple" = none
  c_FIGURES : ∃ t, mg "FIGURES" = some (.str "0123456789" t)
  c_PIECES : ∃ t, mg "PIECES" = some (.int 2000 t)
  c_SIGNS : ∃ t, mg "SIGNS" = some (.int 2000 t)
  e_NoLines : ErrAt K mg CA "NoLines" 7
  q_MendError : mg "MendError" = some (.ref (CA 8))
  q_NoLetter : mg "NoLetter" = some (.ref (CA 4))
  q_NoLines : mg "NoLines" = some (.ref (CA 7))
  xc_NoLines : ExcC K (CA 7)
  kt_NoLines_MendError : PySem.W.kitOne K (.ref (CA 7)) (.ref (CA 8)) = some true
  kt_NoLines_NoLetter : PySem.W.kitOne K (.ref (CA 7)) (.ref (CA 4)) = some false
  kt_NoLines_ValueError : PySem.W.kitOne K (.ref (CA 7)) (.type "ValueError") = some true
  xm_NoLines_NoLines : PySem.W.exmOne K (.ref (CA 7)) (.ref (CA 7)) = some true
theorem tb_MendError_ok {K : PySem.W.Frag} {mg : Str → Option Value} {CA : EvC} (T : Txt K mg CA) : ∀ c k, tb_MendError c = some k → ExcC K (CA c) ∧ PySem.W.kitOne K (.ref (CA c)) (.ref (CA 8)) = some k := by
  intro c k h
  unfold tb_MendError at h
  split at h
  · rename_i e; subst e; cases h; exact ⟨T.xc_NoLines, T.kt_NoLines_MendError⟩
  cases h
theorem tb_NoLetter_ok {K : PySem.W.Frag} {mg : Str → Option Value} {CA : EvC} (T : Txt K mg CA) : ∀ c k, tb_NoLetter c = some k → ExcC K (CA c) ∧ PySem.W.kitOne K (.ref (CA c)) (.ref (CA 4)) = some k := by
  intro c k h
  unfold tb_NoLetter at h
  split at h
  · rename_i e; subst e; cases h; exact ⟨T.xc_NoLines, T.kt_NoLines_NoLetter⟩
  cases h
theorem tb_ValueError_ok {K : PySem.W.Frag} {mg : Str → Option Value} {CA : EvC} (T : Txt K mg CA) : ∀ c k, tb_ValueError c = some k → ExcC K (CA c) ∧ PySem.W.kitOne K (.ref (CA c)) (.type "ValueError") = some k := by
  intro c k h
  unfold tb_ValueError at h
  split at h
  · rename_i e; subst e; cases h; exact ⟨T.xc_NoLines, T.kt_NoLines_ValueError⟩
  cases h
theorem mt_NoLines_ok {K : PySem.W.Frag} {mg : Str → Option Value} {CA : EvC} (T : Txt K mg CA) : ∀ c k, mt_NoLines c = some k → PySem.W.exmOne K (.ref (CA c)) (.ref (CA 7)) = some k := by
  intro c k h
  unfold mt_NoLines at h
  split at h
  · rename_i e; subst e; cases h; exact T.xm_NoLines_NoLines
  cases h
section
variable {P : Program} {w : World} {K : PySem.W.Frag} {mg : Str → Option Value} {base : Heap} {CA : EvC}
theorem ok_p_is_whole (T : Txt K mg CA) : DefAt P w K mg base CA 1 "is_whole" p_is_whole := by
  have nd := sc_p_is_whole.nd
  have g_bool := T.g_bool
  have g_int := T.g_int
  have g_isinstance := T.g_isinstance
  exact defAt T.f_p_is_whole sc_p_is_whole fun X hX hr E tk hp => by
    obtain ⟨f, cdv, A, outer, s0, H, E', rfl⟩ := hX
    exact ⟨_, (sx_one (s_ret (px_a (px_isi g_isinstance g_int (px_var 0)) (px_one (px_no (px_isi g_isinstance g_bool (px_var 0)))))))⟩

theorem ok_p_worth (T : Txt K mg CA) : DefAt P w K mg base CA 1 "worth" p_worth := by
  have nd := sc_p_worth.nd
  have g_ord := T.g_ord
  exact defAt T.f_p_worth sc_p_worth fun X hX hr E tk hp => by
    obtain ⟨f, cdv, A, outer, s0, H, E', rfl⟩ := hX
    exact ⟨_, (sx_one (s_ret (px_ord g_ord (px_var 0))))⟩

theorem ok_p_lnumber_of (T : Txt K mg CA) : DefAt P w K mg base CA 1 "number_of" p_lnumber_of := by
  have nd := sc_p_lnumber_of.nd
  have g_all := T.g_all
  have g_int := T.g_int
  have g_len := T.g_len
  obtain ⟨_, c_FIGURES⟩ := T.c_FIGURES
  have e_NoLines := T.e_NoLines
  exact defAt T.f_p_lnumber_of sc_p_lnumber_of fun X hX hr E tk hp => by
    obtain ⟨f, cdv, A, outer, s0, H, E', rfl⟩ := hX
    exact ⟨_, (sx_cons (s_if (pt_w (pw_o (pt_no (pt_chainX ox_le ox_le px_int (px_len g_len (px_var 0)) px_int)) (pw_o1 (pt_no (pt_v (px_all rfl g_all (px_lc [("sign", 1)] rfl nd (pix_s (px_var 0)) (blkOk_by (N := n_p_lnumber_of) (sc := defScope s_p_lnumber_of) (by decide +kernel)) rfl (fun _ _ _ _ _ => (pgx_n 1 nd)) (fun _ _ _ _ _ => pts_n) (fun _ _ _ _ _ => (px_ins (px_var 1) (px_globS [48, 49, 50, 51, 52, 53, 54, 55, 56, 57] c_FIGURES))))))))))
    (sx_one (s_raise rfl tk e_NoLines))
    sx_nil)
    (sx_cons (s_if (pt_w (pw_a (pt_gt (px_len g_len (px_var 0)) px_int) (pw_a1 (pt_eq hr (px_ix (px_var 0) px_int) (px_str [48])))))
    (sx_one (s_raise rfl tk e_NoLines))
    sx_nil)
    (sx_one (s_ret (px_ints g_int (px_var 0))))))⟩

theorem ok_q_cell_at (T : Txt K mg CA) : DefAt P w K mg base CA 1 "_law_cell_at" q_cell_at := by
  have nd := sc_q_cell_at.nd
  have g_len := T.g_len
  exact defAt T.f_q_cell_at sc_q_cell_at fun X hX hr E tk hp => by
    obtain ⟨f, cdv, A, outer, s0, H, E', rfl⟩ := hX
    exact ⟨_, (sx_cons (s_if (pt_lt (px_var 1) (px_len g_len (px_var 0)))
    (sx_one (s_ret (px_ix (px_var 0) (px_var 1))))
    sx_nil)
    (sx_cons (s_if (pt_eq hr (px_var 0) (px_lst pa_n))
    (sx_one (s_ret px_int))
    sx_nil)
    (sx_one (s_ret (px_add (px_mul (px_ix (px_var 0) (px_mod (px_var 1) (px_len g_len (px_var 0)))) px_int) (px_var 1))))))⟩

theorem ok_q_whole (T : Txt K mg CA) : DefAt P w K mg base CA 1 "_law_whole" q_whole := by
  have nd := sc_q_whole.nd
  have g_bool := T.g_bool
  have g_int := T.g_int
  have g_isinstance := T.g_isinstance
  exact defAt T.f_q_whole sc_q_whole fun X hX hr E tk hp => by
    obtain ⟨f, cdv, A, outer, s0, H, E', rfl⟩ := hX
    exact ⟨_, (sx_one (s_ret (px_a (px_isi g_isinstance g_int (px_var 0)) (px_one (px_no (px_isi g_isinstance g_bool (px_var 0)))))))⟩

theorem ok_q_lines (T : Txt K mg CA) : DefAt P w K mg base CA 1 "_law_lines" q_lines := by
  have nd := sc_q_lines.nd
  have g_str := T.g_str
  exact defAt T.f_q_lines sc_q_lines fun X hX hr E tk hp => by
    obtain ⟨f, cdv, A, outer, s0, H, E', rfl⟩ := hX
    exact ⟨_, (sx_one (s_ret (px_join (px_str []) (px_lc [("_law_piece_here", 1)] rfl nd (pix_l (px_var 0)) (blkOk_by (N := n_q_lines) (sc := defScope s_q_lines) (by decide +kernel)) rfl (fun _ _ _ _ _ => (pgx_n 1 nd)) (fun _ _ _ _ _ => pts_n) (fun _ _ _ _ _ => (px_add (px_join (px_str [32]) (px_lc [("_law_part", 2)] rfl nd (pix_t (px_var 1)) (blkOk_nf (N := n_q_lines) (by decide +kernel)) rfl (fun _ _ _ _ _ => (pgx_n 2 nd)) (fun _ _ _ _ _ => pts_n) (fun _ _ _ _ _ => (px_strc g_str (px_var 2))))) (px_str [10])))))))⟩

theorem ok_q_spoilt (T : Txt K mg CA) : DefAt P w K mg base CA 1 "_law_spoilt" q_spoilt := by
  have nd := sc_q_spoilt.nd
  have g_len := T.g_len
  exact defAt T.f_q_spoilt sc_q_spoilt fun X hX hr E tk hp => by
    obtain ⟨f, cdv, A, outer, s0, H, E', rfl⟩ := hX
    exact ⟨_, (sx_cons (s_set 2 nd (px_mod (px_var 1) (px_add (px_len g_len (px_var 0)) px_int)))
    (sx_cons (s_set 3 nd (px_ix (px_str [32, 10, 48, 49, 50, 51, 52, 53, 54, 55, 56, 57, 99, 111, 112, 121, 115, 105, 103, 110, 97, 98, 45, 43, 46]) (px_mod (px_div (px_var 1) px_int) px_int)))
    (sx_cons (s_set 4 nd (px_mod (px_div (px_var 1) px_int) px_int))
    (sx_cons (s_if (pt_eq hr (px_var 4) px_int)
    (sx_one (s_ret (px_add (px_add (px_sl (px_var 0) po_no (po_yes (px_var 2))) (px_var 3)) (px_sl (px_var 0) (po_yes (px_var 2)) po_no))))
    sx_nil)
    (sx_cons (s_if (pt_eq hr (px_var 4) px_int)
    (sx_one (s_ret (px_add (px_sl (px_var 0) po_no (po_yes (px_var 2))) (px_sl (px_var 0) (po_yes (px_add (px_var 2) px_int)) po_no))))
    sx_nil)
    (sx_cons (s_if (pt_eq hr (px_var 4) px_int)
    (sx_one (s_ret (px_add (px_add (px_sl (px_var 0) po_no (po_yes (px_var 2))) (px_var 3)) (px_sl (px_var 0) (po_yes (px_add (px_var 2) px_int)) po_no))))
    sx_nil)
    (sx_cons (s_if (pt_eq hr (px_var 4) px_int)
    (sx_one (s_ret (px_add (px_var 0) (px_ix (px_lst (pa_c (px_str [115, 105, 103, 110, 115, 32, 10]) (pa_c (px_str [99, 111, 112, 121, 32, 48, 32, 48, 10]) (pa_c (px_str [99, 111, 112, 121, 32, 48, 49, 32, 50, 10]) (pa_c (px_str [115, 105, 103, 110, 115, 32, 32, 10]) (pa_c (px_str [99, 111, 112, 121, 32, 49, 10]) (pa_c (px_str [10]) (pa_c (px_str [99, 111, 112, 121, 32, 45, 49, 32, 50, 10]) pa_n)))))))) (px_mod (px_var 1) px_int)))))
    sx_nil)
    (sx_cons (s_if (pt_eq hr (px_var 4) px_int)
    (sx_one (s_ret (px_add (px_var 0) (px_var 0))))
    sx_nil)
    (sx_one (s_ret (px_ix (px_lst (pa_c px_non (pa_c px_int (pa_c (px_lst (pa_c (px_var 0) pa_n)) (pa_c (px_sl (px_var 0) po_no (po_yes (px_neg px_int))) (pa_c (px_str [115, 105, 103, 110, 115, 32, 97]) (pa_c (px_str [99, 111, 112, 121, 32, 49, 32, 50, 32, 51, 10]) pa_n))))))) (px_mod (px_var 1) px_int))))))))))))⟩

theorem ok_q_number (T : Txt K mg CA) : DefAt P w K mg base CA 1 "_law_number" q_number := by
  have nd := sc_q_number.nd
  have g_int := T.g_int
  exact defAt T.f_q_number sc_q_number fun X hX hr E tk hp => by
    obtain ⟨f, cdv, A, outer, s0, H, E', rfl⟩ := hX
    exact ⟨_, (sx_cons (s_if (pt_w (pw_o (pt_eq hr (px_var 0) (px_str [])) (pw_o1 (pt_ne hr (px_lc [("_law_sign", 1)] rfl nd (pix_s (px_var 0)) (blkOk_by (N := n_q_number) (sc := defScope s_q_number) (by decide +kernel)) rfl (fun _ _ _ _ _ => (pgx_n 1 nd)) (fun _ _ _ _ _ => (pts_1 (pt_nins (px_var 1) (px_str [48, 49, 50, 51, 52, 53, 54, 55, 56, 57])))) (fun _ _ _ _ _ => (px_var 1))) (px_lst pa_n)))))
    (sx_one (s_ret px_non))
    sx_nil)
    (sx_cons (s_if (pt_w (pw_a (pt_eq hr (px_ix (px_var 0) px_int) (px_str [48])) (pw_a1 (pt_ne hr (px_var 0) (px_str [48])))))
    (sx_one (s_ret px_non))
    sx_nil)
    (sx_one (s_ret (px_ints g_int (px_var 0))))))⟩

theorem ok_p_is_text (T : Txt K mg CA) : DefAt P w K mg base CA 2 "is_text" p_is_text := by
  have nd := sc_p_is_text.nd
  have g_all := T.g_all
  have g_isinstance := T.g_isinstance
  have g_len := T.g_len
  have g_str := T.g_str
  have G_p_worth := ok_p_worth (P := P) (w := w) (base := base) T
  exact defAt T.f_p_is_text sc_p_is_text fun X hX hr E tk hp => by
    obtain ⟨f, cdv, A, outer, s0, H, E', rfl⟩ := hX
    exact ⟨_, (sx_cons (s_if (pt_w (pw_o (pt_no (pt_v (px_isi g_isinstance g_str (px_var 0)))) (pw_o1 (pt_no (pt_chainX ox_le ox_le (px_var 1) (px_len g_len (px_var 0)) (px_var 2))))))
    (sx_one (s_ret px_bl))
    sx_nil)
    (sx_one (s_ret (px_all rfl g_all (px_lc [("sign", 3)] rfl nd (pix_s (px_var 0)) (blkOk_by (N := n_p_is_text) (sc := defScope s_p_is_text) (by decide +kernel)) rfl (fun _ _ _ _ _ => (pgx_n 3 nd)) (fun _ _ _ _ _ => pts_n) (fun _ _ _ _ _ => (px_a (px_chain ox_le ox_le px_int (px_call G_p_worth hr (by decide) takes0 (pa_c (px_var 3) pa_n)) px_int) (px_one (px_ne hr (px_call G_p_worth hr (by decide) takes0 (pa_c (px_var 3) pa_n)) px_int)))))))))⟩

theorem ok_p_piece_of (T : Txt K mg CA) : DefAt P w K mg base CA 2 "piece_of" p_piece_of := by
  have nd := sc_p_piece_of.nd
  have g_len := T.g_len
  have e_NoLines := T.e_NoLines
  have G_p_lnumber_of := ok_p_lnumber_of (P := P) (w := w) (base := base) T
  exact defAt T.f_p_piece_of sc_p_piece_of fun X hX hr E tk hp => by
    obtain ⟨f, cdv, A, outer, s0, H, E', rfl⟩ := hX
    exact ⟨_, (sx_cons (s_if (pt_eq hr (px_sl (px_var 0) po_no (po_yes px_int)) (px_str [115, 105, 103, 110, 115, 32]))
    (sx_one (s_ret (px_tup (pa_c (px_str [115, 105, 103, 110, 115]) (pa_c (px_sl (px_var 0) (po_yes px_int) po_no) pa_n)))))
    sx_nil)
    (sx_cons (s_set 1 nd (px_split (px_var 0) (px_str [32])))
    (sx_cons (s_if (pt_w (pw_o (pt_ne hr (px_ix (px_var 1) px_int) (px_str [99, 111, 112, 121])) (pw_o1 (pt_ne hr (px_len g_len (px_var 1)) px_int))))
    (sx_one (s_raise rfl tk e_NoLines))
    sx_nil)
    (sx_one (s_ret (px_tup (pa_c (px_str [99, 111, 112, 121]) (pa_c (px_call G_p_lnumber_of hr (by decide) tk (pa_c (px_ix (px_var 1) px_int) pa_n)) (pa_c (px_call G_p_lnumber_of hr (by decide) tk (pa_c (px_ix (px_var 1) px_int) pa_n)) pa_n)))))))))⟩

theorem ok_q_mixed (T : Txt K mg CA) : DefAt P w K mg base CA 2 "_law_mixed" q_mixed := by
  have nd := sc_q_mixed.nd
  have G_q_cell_at := ok_q_cell_at (P := P) (w := w) (base := base) T
  exact defAt T.f_q_mixed sc_q_mixed fun X hX hr E tk hp => by
    obtain ⟨f, cdv, A, outer, s0, H, E', rfl⟩ := hX
    exact ⟨_, (sx_cons (s_set 3 nd (px_mod (px_mul (px_add (px_add (px_call G_q_cell_at hr (by decide) tk (pa_c (px_var 0) (pa_c (px_var 1) pa_n))) (px_mul px_int (px_var 1))) px_int) px_int) px_int))
    (sx_one (s_ret (px_mod (px_mod (px_add (px_add (px_mul (px_var 3) (px_var 3)) (px_mul px_int (px_var 3))) (px_var 1)) px_int) (px_var 2)))))⟩

theorem ok_q_is_piece (T : Txt K mg CA) : DefAt P w K mg base CA 2 "_law_is_piece" q_is_piece := by
  have nd := sc_q_is_piece.nd
  have g_isinstance := T.g_isinstance
  have g_len := T.g_len
  have g_str := T.g_str
  have g_tuple := T.g_tuple
  have G_q_whole := ok_q_whole (P := P) (w := w) (base := base) T
  exact defAt T.f_q_is_piece sc_q_is_piece fun X hX hr E tk hp => by
    obtain ⟨f, cdv, A, outer, s0, H, E', rfl⟩ := hX
    exact ⟨_, (sx_cons (s_if (pt_w (pw_o (pt_no (pt_v (px_isi g_isinstance g_tuple (px_var 0)))) (pw_o1 (pt_lt (px_len g_len (px_var 0)) px_int))))
    (sx_one (s_ret px_bl))
    sx_nil)
    (sx_cons (s_if (pt_eq hr (px_ix (px_var 0) px_int) (px_str [115, 105, 103, 110, 115]))
    (sx_one (s_ret (px_a (px_eq hr (px_len g_len (px_var 0)) px_int) (px_a (px_isi g_isinstance g_str (px_ix (px_var 0) px_int)) (px_one (px_ne hr (px_ix (px_var 0) px_int) (px_str [])))))))
    sx_nil)
    (sx_cons (s_if (pt_w (pw_o (pt_ne hr (px_ix (px_var 0) px_int) (px_str [99, 111, 112, 121])) (pw_o1 (pt_ne hr (px_len g_len (px_var 0)) px_int))))
    (sx_one (s_ret px_bl))
    sx_nil)
    (sx_one (s_ret (px_a (px_call G_q_whole hr (by decide) tk (pa_c (px_ix (px_var 0) px_int) pa_n)) (px_a (px_ge (px_ix (px_var 0) px_int) px_int) (px_a (px_call G_q_whole hr (by decide) tk (pa_c (px_ix (px_var 0) px_int) pa_n)) (px_one (px_gt (px_ix (px_var 0) px_int) px_int))))))))))⟩

theorem ok_q_piece (T : Txt K mg CA) : DefAt P w K mg base CA 2 "_law_piece" q_piece := by
  have nd := sc_q_piece.nd
  have g_len := T.g_len
  have G_q_number := ok_q_number (P := P) (w := w) (base := base) T
  exact defAt T.f_q_piece sc_q_piece fun X hX hr E tk hp => by
    obtain ⟨f, cdv, A, outer, s0, H, E', rfl⟩ := hX
    exact ⟨_, (sx_cons (s_if (pt_eq hr (px_sl (px_var 0) po_no (po_yes px_int)) (px_str [115, 105, 103, 110, 115, 32]))
    (sx_one (s_ret (px_tup (pa_c (px_str [115, 105, 103, 110, 115]) (pa_c (px_sl (px_var 0) (po_yes px_int) po_no) pa_n)))))
    sx_nil)
    (sx_cons (s_set 1 nd (px_split (px_var 0) (px_str [32])))
    (sx_cons (s_if (pt_w (pw_o (pt_ne hr (px_len g_len (px_var 1)) px_int) (pw_o1 (pt_ne hr (px_ix (px_var 1) px_int) (px_str [99, 111, 112, 121])))))
    (sx_one (s_ret px_non))
    sx_nil)
    (sx_one (s_ret (px_tup (pa_c (px_str [99, 111, 112, 121]) (pa_c (px_call G_q_number hr (by decide) tk (pa_c (px_ix (px_var 1) px_int) pa_n)) (pa_c (px_call G_q_number hr (by decide) tk (pa_c (px_ix (px_var 1) px_int) pa_n)) pa_n)))))))))⟩

theorem ok_p_is_piece (T : Txt K mg CA) : DefAt P w K mg base CA 3 "is_piece" p_is_piece := by
  have nd := sc_p_is_piece.nd
  have g_isinstance := T.g_isinstance
  have g_len := T.g_len
  have g_tuple := T.g_tuple
  obtain ⟨_, c_SIGNS⟩ := T.c_SIGNS
  have G_p_is_whole := ok_p_is_whole (P := P) (w := w) (base := base) T
  have G_p_is_text := ok_p_is_text (P := P) (w := w) (base := base) T
  exact defAt T.f_p_is_piece sc_p_is_piece fun X hX hr E tk hp => by
    obtain ⟨f, cdv, A, outer, s0, H, E', rfl⟩ := hX
    exact ⟨_, (sx_cons (s_if (pt_w (pw_o (pt_no (pt_v (px_isi g_isinstance g_tuple (px_var 0)))) (pw_o1 (pt_lt (px_len g_len (px_var 0)) px_int))))
    (sx_one (s_ret px_bl))
    sx_nil)
    (sx_cons (s_if (pt_eq hr (px_ix (px_var 0) px_int) (px_str [115, 105, 103, 110, 115]))
    (sx_one (s_ret (px_a (px_eq hr (px_len g_len (px_var 0)) px_int) (px_one (px_call G_p_is_text hr (by decide) tk (pa_c (px_ix (px_var 0) px_int) (pa_c px_int (pa_c (px_globI c_SIGNS) pa_n))))))))
    sx_nil)
    (sx_cons (s_if (pt_w (pw_o (pt_ne hr (px_ix (px_var 0) px_int) (px_str [99, 111, 112, 121])) (pw_o1 (pt_ne hr (px_len g_len (px_var 0)) px_int))))
    (sx_one (s_ret px_bl))
    sx_nil)
    (sx_one (s_ret (px_a (px_call G_p_is_whole hr (by decide) tk (pa_c (px_ix (px_var 0) px_int) pa_n)) (px_a (px_ge (px_ix (px_var 0) px_int) px_int) (px_a (px_call G_p_is_whole hr (by decide) tk (pa_c (px_ix (px_var 0) px_int) pa_n)) (px_one (px_ge (px_ix (px_var 0) px_int) px_int))))))))))⟩

theorem ok_q_text (T : Txt K mg CA) : DefAt P w K mg base CA 3 "_law_text" q_text := by
  have nd := sc_q_text.nd
  have g_len := T.g_len
  have g_range := T.g_range
  have G_q_mixed := ok_q_mixed (P := P) (w := w) (base := base) T
  exact defAt T.f_q_text sc_q_text fun X hX hr E tk hp => by
    obtain ⟨f, cdv, A, outer, s0, H, E', rfl⟩ := hX
    exact ⟨_, (sx_cons (s_set 3 nd (px_ix (px_lst (pa_c (px_str [97]) (pa_c (px_str [97, 98]) (pa_c (px_str [97, 98]) (pa_c (px_str [97, 98, 99]) (pa_c (px_str [32, 126, 33, 38, 98, 122, 65, 90, 48, 57]) pa_n)))))) (px_call G_q_mixed hr (by decide) tk (pa_c (px_var 0) (pa_c (px_var 1) (pa_c px_int pa_n))))))
    (sx_cons (s_set 4 nd (px_call G_q_mixed hr (by decide) tk (pa_c (px_var 0) (pa_c (px_add (px_var 1) px_int) (pa_c (px_pow px_int px_int) pa_n)))))
    (sx_cons (s_set 5 nd (px_str []))
    (sx_cons (s_for hp rfl (pix_r1 g_range (px_call G_q_mixed hr (by decide) tk (pa_c (px_var 0) (pa_c (px_add (px_var 1) px_int) (pa_c (px_add (px_var 2) px_int) pa_n))))) (pgx_n 6 nd)
    (sx_cons (s_set 7 nd (px_mod (px_mul (px_add (px_add (px_var 4) (px_mul (px_mul px_int (px_var 6)) (px_var 6))) (px_mul px_int (px_var 6))) px_int) px_int))
    (sx_one (s_set 5 nd (px_add (px_var 5) (px_ix (px_var 3) (px_mod (px_div (px_mod (px_mul (px_var 7) (px_add (px_var 7) px_int)) px_int) px_int) (px_len g_len (px_var 3)))))))))
    (sx_one (s_retV 5 (px_var 5)))))))⟩

theorem ok_q_is_letter (T : Txt K mg CA) : DefAt P w K mg base CA 3 "_law_is_letter" q_is_letter := by
  have nd := sc_q_is_letter.nd
  have g_isinstance := T.g_isinstance
  have g_list := T.g_list
  have G_q_is_piece := ok_q_is_piece (P := P) (w := w) (base := base) T
  exact defAt T.f_q_is_letter sc_q_is_letter fun X hX hr E tk hp => by
    obtain ⟨f, cdv, A, outer, s0, H, E', rfl⟩ := hX
    exact ⟨_, (sx_one (s_ret (px_a (px_isi g_isinstance g_list (px_var 0)) (px_one (px_eq hr (px_lc [("_law_piece_here", 1)] rfl nd (pix_l (px_var 0)) (blkOk_by (N := n_q_is_letter) (sc := defScope s_q_is_letter) (by decide +kernel)) rfl (fun _ _ _ _ _ => (pgx_n 1 nd)) (fun _ _ _ _ _ => (pts_1 (pt_no (pt_v (px_call G_q_is_piece hr (by decide) takes0 (pa_c (px_var 1) pa_n)))))) (fun _ _ _ _ _ => (px_var 1))) (px_lst pa_n))))))⟩

theorem ok_p_read (T : Txt K mg CA) : DefAt P w K mg base CA 4 "read" p_read := by
  have nd := sc_p_read.nd
  have g_all := T.g_all
  have g_isinstance := T.g_isinstance
  have g_len := T.g_len
  have g_str := T.g_str
  obtain ⟨_, c_PIECES⟩ := T.c_PIECES
  have e_NoLines := T.e_NoLines
  have G_p_piece_of := ok_p_piece_of (P := P) (w := w) (base := base) T
  have G_p_is_piece := ok_p_is_piece (P := P) (w := w) (base := base) T
  exact defAt T.f_p_read sc_p_read fun X hX hr E tk hp => by
    obtain ⟨f, cdv, A, outer, s0, H, E', rfl⟩ := hX
    exact ⟨_, (sx_cons (s_if (pt_no (pt_v (px_isi g_isinstance g_str (px_var 0))))
    (sx_one (s_raise rfl tk e_NoLines))
    sx_nil)
    (sx_cons (s_set 1 nd (px_split (px_var 0) (px_str [10])))
    (sx_cons (s_if (pt_w (pw_o (pt_ne hr (px_ix (px_var 1) (px_neg px_int)) (px_str [])) (pw_o1 (pt_gt (px_len g_len (px_var 1)) (px_add (px_globI c_PIECES) px_int)))))
    (sx_one (s_raise rfl tk e_NoLines))
    sx_nil)
    (sx_cons (s_setLcX 2 [("line", 3)] rfl rfl tk (fun _ _ _ _ _ h => h) rfl nd (pix_l (px_sl (px_var 1) po_no (po_yes (px_neg px_int)))) (blkOk_by (N := n_p_read) (sc := defScope s_p_read) (by decide +kernel)) rfl (fun _ _ _ _ _ => (pgx_n 3 nd)) (fun _ _ _ _ _ => pts_n) (fun _ _ _ _ _ _ tkB => (px_callF G_p_piece_of hr (by decide) tkB (pa_c (px_var 3) pa_n))))
    (sx_cons (s_if (pt_no (pt_v (px_all rfl g_all (px_lc [("piece", 4)] rfl nd (pix_l (px_var 2)) (blkOk_by (N := n_p_read) (sc := defScope s_p_read) (by decide +kernel)) rfl (fun _ _ _ _ _ => (pgx_n 4 nd)) (fun _ _ _ _ _ => pts_n) (fun _ _ _ _ _ => (px_call G_p_is_piece hr (by decide) takes0 (pa_c (px_var 4) pa_n)))))))
    (sx_one (s_raise rfl tk e_NoLines))
    sx_nil)
    (sx_one (s_retV 2 (px_var 2))))))))⟩

theorem ok_q_letter (T : Txt K mg CA) : DefAt P w K mg base CA 4 "_law_letter" q_letter := by
  have nd := sc_q_letter.nd
  have g_range := T.g_range
  have G_q_mixed := ok_q_mixed (P := P) (w := w) (base := base) T
  have G_q_text := ok_q_text (P := P) (w := w) (base := base) T
  exact defAt T.f_q_letter sc_q_letter fun X hX hr E tk hp => by
    obtain ⟨f, cdv, A, outer, s0, H, E', rfl⟩ := hX
    exact ⟨_, (sx_cons (s_setM 4 nd (px_lst pa_n))
    (sx_cons (s_for hp rfl (pix_r1 g_range (px_call G_q_mixed hr (by decide) tk (pa_c (px_var 0) (pa_c (px_var 1) (pa_c (px_add (px_var 3) px_int) pa_n))))) (pgx_n 5 nd)
    (sx_cons (s_set 6 nd (px_add (px_add (px_var 1) px_int) (px_mul px_int (px_var 5))))
    (sx_cons (s_set 7 nd (px_call G_q_text hr (by decide) tk (pa_c (px_var 0) (pa_c (px_var 6) (pa_c px_int pa_n)))))
    (sx_one (s_if (pt_w (pw_o (pt_eq hr (px_var 2) px_int) (pw_o1 (pt_eq hr (px_call G_q_mixed hr (by decide) tk (pa_c (px_var 0) (pa_c (px_add (px_var 6) px_int) (pa_c px_int pa_n)))) px_int))))
    (sx_one (s_app 4 (px_var 4) (px_tup (pa_c (px_str [115, 105, 103, 110, 115]) (pa_c (px_add (px_var 7) (px_str [98])) pa_n)))))
    (sx_cons (s_set 8 nd (px_call G_q_mixed hr (by decide) tk (pa_c (px_var 0) (pa_c (px_add (px_var 6) px_int) (pa_c (px_var 2) pa_n)))))
    (sx_cons (s_if (pt_w (pw_a (pt_ne hr (px_var 4) (px_lst pa_n)) (pw_a (pt_eq hr (px_ix (px_ix (px_var 4) (px_neg px_int)) px_int) (px_str [99, 111, 112, 121])) (pw_a1 (pt_lt (px_add (px_ix (px_ix (px_var 4) (px_neg px_int)) px_int) (px_ix (px_ix (px_var 4) (px_neg px_int)) px_int)) (px_var 2))))))
    (sx_one (s_set 8 nd (px_ix (px_lst (pa_c (px_var 8) (pa_c (px_add (px_ix (px_ix (px_var 4) (px_neg px_int)) px_int) (px_ix (px_ix (px_var 4) (px_neg px_int)) px_int)) pa_n))) (px_call G_q_mixed hr (by decide) tk (pa_c (px_var 0) (pa_c (px_var 6) (pa_c px_int pa_n)))))))
    sx_nil)
    (sx_one (s_app 4 (px_var 4) (px_tup (pa_c (px_str [99, 111, 112, 121]) (pa_c (px_var 8) (pa_c (px_add px_int (px_call G_q_mixed hr (by decide) tk (pa_c (px_var 0) (pa_c (px_add (px_var 6) px_int) (pa_c (px_sub (px_var 2) (px_var 8)) pa_n))))) pa_n)))))))))))))
    (sx_one (s_retV 4 (px_var 4)))))⟩

theorem ok_q_due (T : Txt K mg CA) : DefAt P w K mg base CA 4 "_law_due" q_due := by
  have nd := sc_q_due.nd
  have g_isinstance := T.g_isinstance
  have g_str := T.g_str
  have G_q_piece := ok_q_piece (P := P) (w := w) (base := base) T
  have G_q_is_letter := ok_q_is_letter (P := P) (w := w) (base := base) T
  exact defAt T.f_q_due sc_q_due fun X hX hr E tk hp => by
    obtain ⟨f, cdv, A, outer, s0, H, E', rfl⟩ := hX
    exact ⟨_, (sx_cons (s_if (pt_w (pw_o (pt_no (pt_v (px_isi g_isinstance g_str (px_var 0)))) (pw_o1 (pt_w (pw_a (pt_ne hr (px_var 0) (px_str [])) (pw_a1 (pt_ne hr (px_ix (px_var 0) (px_neg px_int)) (px_str [10]))))))))
    (sx_one (s_ret px_non))
    sx_nil)
    (sx_cons (s_setLc 1 [("_law_line", 2)] rfl nd (pix_l (px_sl (px_split (px_var 0) (px_str [10])) po_no (po_yes (px_neg px_int)))) (blkOk_by (N := n_q_due) (sc := defScope s_q_due) (by decide +kernel)) rfl (fun _ _ _ _ _ => (pgx_n 2 nd)) (fun _ _ _ _ _ => pts_n) (fun _ _ _ _ _ => (px_call G_q_piece hr (by decide) takes0 (pa_c (px_var 2) pa_n))))
    (sx_cons (s_if (pt_no (pt_v (px_call G_q_is_letter hr (by decide) tk (pa_c (px_var 1) pa_n))))
    (sx_one (s_ret px_non))
    sx_nil)
    (sx_one (s_retV 1 (px_var 1))))))⟩

theorem bd_law (T : Txt K mg CA) : Body P w K mg base CA 4 "law" s_law n_law b_law := by
  have nd := sc_law.nd
  have g_ValueError := T.g_ValueError
  have g_isinstance := T.g_isinstance
  have G_q_spoilt := ok_q_spoilt (P := P) (w := w) (base := base) T
  have G_q_lines := ok_q_lines (P := P) (w := w) (base := base) T
  have G_q_mixed := ok_q_mixed (P := P) (w := w) (base := base) T
  have G_p_read := ok_p_read (P := P) (w := w) (base := base) T
  have G_q_due := ok_q_due (P := P) (w := w) (base := base) T
  have G_q_letter := ok_q_letter (P := P) (w := w) (base := base) T
  exact fun X hX hr E tk hp => by
    obtain ⟨f, cdv, A, outer, s0, H, E', rfl⟩ := hX
    exact ⟨_, (sx_cons (s_set 1 nd (px_call G_q_spoilt hr (by decide) tk (pa_c (px_call G_q_lines hr (by decide) tk (pa_c (px_call G_q_letter hr (by decide) tk (pa_c (px_var 0) (pa_c px_int (pa_c px_int (pa_c px_int pa_n))))) pa_n)) (pa_c (px_call G_q_mixed hr (by decide) tk (pa_c (px_var 0) (pa_c px_int (pa_c (px_pow px_int px_int) pa_n)))) pa_n))))
    (sx_cons (s_set 2 nd px_non)
    (sx_cons (s_try 3 mt_NoLines nd T.q_NoLines (mt_NoLines_ok T) tk (fun W' pn xe tk' hp' => (x_set 2 nd (px_call G_p_read hr (by decide) tk' (pa_c (px_var 1) pa_n)))) (fun W' => (dsx_asg (de_call (da_cons de_var da_nil))))
    (fun a oe cls d pn hz hf => (sx_one (s_if (pt_w (pw_o (pt_no (pt_v (px_isX hz hf 3 tb_MendError g_isinstance T.q_MendError rfl (tb_MendError_ok T) (px_var 3)))) (pw_o (pt_no (pt_v (px_isXV hz hf 3 tb_ValueError g_isinstance g_ValueError (tb_ValueError_ok T) (px_var 3)))) (pw_o1 (pt_v (px_isX hz hf 3 tb_NoLetter g_isinstance T.q_NoLetter rfl (tb_NoLetter_ok T) (px_var 3)))))))
    (sx_one (s_ret px_bl))
    sx_nil))))
    (sx_one (s_ret (px_eq hr (px_var 2) (px_call G_q_due hr (by decide) tk (pa_c (px_var 1) pa_n))))))))⟩

end
theorem law_true : ∀ ns : List Int, ns.length ≤ 63 → fnD 1 n_law.length b_law [.z ns] = some (.d (.b true)) := fun ns _ => law_plain ns
theorem fa_p_is_whole {K : PySem.W.Frag} {h : Heap} {mg : Str → Option Value} (X : K.In h) (G : h.Ns mainGlobals mg) {f : Addr} {oc : Value} {od an : Option Addr} {osl : Array (Option Value)} {kV doc pm cdv ct : Value}
    (a : PySem.W.nsIn K mainGlobals "is_whole" = some (some (.ref f))) (l : K.lookup f = some ⟨oc, od, .func (PySem.W.fnOf "is_whole" "is_whole" (defArgs s_p_is_whole) (defBody s_p_is_whole) (defScope s_p_is_whole) .none kV doc pm an cdv ct), osl⟩) (c : PySem.W.codeIn K cdv "is_whole" = true) (k : PySem.W.keepIn K (.ref f) = true) :
    FunAt K mg "is_whole" s_p_is_whole ["thing"] := funAt_mk X G (fun _ _ _ _ _ _ us hl => match us, hl with | [_], _ => rfl) a l c k
theorem fa_p_worth {K : PySem.W.Frag} {h : Heap} {mg : Str → Option Value} (X : K.In h) (G : h.Ns mainGlobals mg) {f : Addr} {oc : Value} {od an : Option Addr} {osl : Array (Option Value)} {kV doc pm cdv ct : Value}
    (a : PySem.W.nsIn K mainGlobals "worth" = some (some (.ref f))) (l : K.lookup f = some ⟨oc, od, .func (PySem.W.fnOf "worth" "worth" (defArgs s_p_worth) (defBody s_p_worth) (defScope s_p_worth) .none kV doc pm an cdv ct), osl⟩) (c : PySem.W.codeIn K cdv "worth" = true) (k : PySem.W.keepIn K (.ref f) = true) :
    FunAt K mg "worth" s_p_worth ["sign"] := funAt_mk X G (fun _ _ _ _ _ _ us hl => match us, hl with | [_], _ => rfl) a l c k
theorem fa_p_lnumber_of {K : PySem.W.Frag} {h : Heap} {mg : Str → Option Value} (X : K.In h) (G : h.Ns mainGlobals mg) {f : Addr} {oc : Value} {od an : Option Addr} {osl : Array (Option Value)} {kV doc pm cdv ct : Value}
    (a : PySem.W.nsIn K mainGlobals "number_of" = some (some (.ref f))) (l : K.lookup f = some ⟨oc, od, .func (PySem.W.fnOf "number_of" "number_of" (defArgs s_p_lnumber_of) (defBody s_p_lnumber_of) (defScope s_p_lnumber_of) .none kV doc pm an cdv ct), osl⟩) (c : PySem.W.codeIn K cdv "number_of" = true) (k : PySem.W.keepIn K (.ref f) = true) :
    FunAt K mg "number_of" s_p_lnumber_of ["figures"] := funAt_mk X G (fun _ _ _ _ _ _ us hl => match us, hl with | [_], _ => rfl) a l c k
theorem fa_q_cell_at {K : PySem.W.Frag} {h : Heap} {mg : Str → Option Value} (X : K.In h) (G : h.Ns mainGlobals mg) {f : Addr} {oc : Value} {od an : Option Addr} {osl : Array (Option Value)} {kV doc pm cdv ct : Value}
    (a : PySem.W.nsIn K mainGlobals "_law_cell_at" = some (some (.ref f))) (l : K.lookup f = some ⟨oc, od, .func (PySem.W.fnOf "_law_cell_at" "_law_cell_at" (defArgs s_q_cell_at) (defBody s_q_cell_at) (defScope s_q_cell_at) .none kV doc pm an cdv ct), osl⟩) (c : PySem.W.codeIn K cdv "_law_cell_at" = true) (k : PySem.W.keepIn K (.ref f) = true) :
    FunAt K mg "_law_cell_at" s_q_cell_at ["_law_script", "_law_k"] := funAt_mk X G (fun _ _ _ _ _ _ us hl => match us, hl with | [_, _], _ => rfl) a l c k
theorem fa_q_whole {K : PySem.W.Frag} {h : Heap} {mg : Str → Option Value} (X : K.In h) (G : h.Ns mainGlobals mg) {f : Addr} {oc : Value} {od an : Option Addr} {osl : Array (Option Value)} {kV doc pm cdv ct : Value}
    (a : PySem.W.nsIn K mainGlobals "_law_whole" = some (some (.ref f))) (l : K.lookup f = some ⟨oc, od, .func (PySem.W.fnOf "_law_whole" "_law_whole" (defArgs s_q_whole) (defBody s_q_whole) (defScope s_q_whole) .none kV doc pm an cdv ct), osl⟩) (c : PySem.W.codeIn K cdv "_law_whole" = true) (k : PySem.W.keepIn K (.ref f) = true) :
    FunAt K mg "_law_whole" s_q_whole ["_law_found"] := funAt_mk X G (fun _ _ _ _ _ _ us hl => match us, hl with | [_], _ => rfl) a l c k
theorem fa_q_lines {K : PySem.W.Frag} {h : Heap} {mg : Str → Option Value} (X : K.In h) (G : h.Ns mainGlobals mg) {f : Addr} {oc : Value} {od an : Option Addr} {osl : Array (Option Value)} {kV doc pm cdv ct : Value}
    (a : PySem.W.nsIn K mainGlobals "_law_lines" = some (some (.ref f))) (l : K.lookup f = some ⟨oc, od, .func (PySem.W.fnOf "_law_lines" "_law_lines" (defArgs s_q_lines) (defBody s_q_lines) (defScope s_q_lines) .none kV doc pm an cdv ct), osl⟩) (c : PySem.W.codeIn K cdv "_law_lines" = true) (k : PySem.W.keepIn K (.ref f) = true) :
    FunAt K mg "_law_lines" s_q_lines ["_law_letter_here"] := funAt_mk X G (fun _ _ _ _ _ _ us hl => match us, hl with | [_], _ => rfl) a l c k
theorem fa_q_spoilt {K : PySem.W.Frag} {h : Heap} {mg : Str → Option Value} (X : K.In h) (G : h.Ns mainGlobals mg) {f : Addr} {oc : Value} {od an : Option Addr} {osl : Array (Option Value)} {kV doc pm cdv ct : Value}
    (a : PySem.W.nsIn K mainGlobals "_law_spoilt" = some (some (.ref f))) (l : K.lookup f = some ⟨oc, od, .func (PySem.W.fnOf "_law_spoilt" "_law_spoilt" (defArgs s_q_spoilt) (defBody s_q_spoilt) (defScope s_q_spoilt) .none kV doc pm an cdv ct), osl⟩) (c : PySem.W.codeIn K cdv "_law_spoilt" = true) (k : PySem.W.keepIn K (.ref f) = true) :
    FunAt K mg "_law_spoilt" s_q_spoilt ["_law_text_here", "_law_cell"] := funAt_mk X G (fun _ _ _ _ _ _ us hl => match us, hl with | [_, _], _ => rfl) a l c k
theorem fa_q_number {K : PySem.W.Frag} {h : Heap} {mg : Str → Option Value} (X : K.In h) (G : h.Ns mainGlobals mg) {f : Addr} {oc : Value} {od an : Option Addr} {osl : Array (Option Value)} {kV doc pm cdv ct : Value}
    (a : PySem.W.nsIn K mainGlobals "_law_number" = some (some (.ref f))) (l : K.lookup f = some ⟨oc, od, .func (PySem.W.fnOf "_law_number" "_law_number" (defArgs s_q_number) (defBody s_q_number) (defScope s_q_number) .none kV doc pm an cdv ct), osl⟩) (c : PySem.W.codeIn K cdv "_law_number" = true) (k : PySem.W.keepIn K (.ref f) = true) :
    FunAt K mg "_law_number" s_q_number ["_law_figures"] := funAt_mk X G (fun _ _ _ _ _ _ us hl => match us, hl with | [_], _ => rfl) a l c k
theorem fa_p_is_text {K : PySem.W.Frag} {h : Heap} {mg : Str → Option Value} (X : K.In h) (G : h.Ns mainGlobals mg) {f : Addr} {oc : Value} {od an : Option Addr} {osl : Array (Option Value)} {kV doc pm cdv ct : Value}
    (a : PySem.W.nsIn K mainGlobals "is_text" = some (some (.ref f))) (l : K.lookup f = some ⟨oc, od, .func (PySem.W.fnOf "is_text" "is_text" (defArgs s_p_is_text) (defBody s_p_is_text) (defScope s_p_is_text) .none kV doc pm an cdv ct), osl⟩) (c : PySem.W.codeIn K cdv "is_text" = true) (k : PySem.W.keepIn K (.ref f) = true) :
    FunAt K mg "is_text" s_p_is_text ["thing", "least", "most"] := funAt_mk X G (fun _ _ _ _ _ _ us hl => match us, hl with | [_, _, _], _ => rfl) a l c k
theorem fa_p_piece_of {K : PySem.W.Frag} {h : Heap} {mg : Str → Option Value} (X : K.In h) (G : h.Ns mainGlobals mg) {f : Addr} {oc : Value} {od an : Option Addr} {osl : Array (Option Value)} {kV doc pm cdv ct : Value}
    (a : PySem.W.nsIn K mainGlobals "piece_of" = some (some (.ref f))) (l : K.lookup f = some ⟨oc, od, .func (PySem.W.fnOf "piece_of" "piece_of" (defArgs s_p_piece_of) (defBody s_p_piece_of) (defScope s_p_piece_of) .none kV doc pm an cdv ct), osl⟩) (c : PySem.W.codeIn K cdv "piece_of" = true) (k : PySem.W.keepIn K (.ref f) = true) :
    FunAt K mg "piece_of" s_p_piece_of ["line"] := funAt_mk X G (fun _ _ _ _ _ _ us hl => match us, hl with | [_], _ => rfl) a l c k
theorem fa_q_mixed {K : PySem.W.Frag} {h : Heap} {mg : Str → Option Value} (X : K.In h) (G : h.Ns mainGlobals mg) {f : Addr} {oc : Value} {od an : Option Addr} {osl : Array (Option Value)} {kV doc pm cdv ct : Value}
    (a : PySem.W.nsIn K mainGlobals "_law_mixed" = some (some (.ref f))) (l : K.lookup f = some ⟨oc, od, .func (PySem.W.fnOf "_law_mixed" "_law_mixed" (defArgs s_q_mixed) (defBody s_q_mixed) (defScope s_q_mixed) .none kV doc pm an cdv ct), osl⟩) (c : PySem.W.codeIn K cdv "_law_mixed" = true) (k : PySem.W.keepIn K (.ref f) = true) :
    FunAt K mg "_law_mixed" s_q_mixed ["_law_script", "_law_k", "_law_many"] := funAt_mk X G (fun _ _ _ _ _ _ us hl => match us, hl with | [_, _, _], _ => rfl) a l c k
theorem fa_q_is_piece {K : PySem.W.Frag} {h : Heap} {mg : Str → Option Value} (X : K.In h) (G : h.Ns mainGlobals mg) {f : Addr} {oc : Value} {od an : Option Addr} {osl : Array (Option Value)} {kV doc pm cdv ct : Value}
    (a : PySem.W.nsIn K mainGlobals "_law_is_piece" = some (some (.ref f))) (l : K.lookup f = some ⟨oc, od, .func (PySem.W.fnOf "_law_is_piece" "_law_is_piece" (defArgs s_q_is_piece) (defBody s_q_is_piece) (defScope s_q_is_piece) .none kV doc pm an cdv ct), osl⟩) (c : PySem.W.codeIn K cdv "_law_is_piece" = true) (k : PySem.W.keepIn K (.ref f) = true) :
    FunAt K mg "_law_is_piece" s_q_is_piece ["_law_piece_here"] := funAt_mk X G (fun _ _ _ _ _ _ us hl => match us, hl with | [_], _ => rfl) a l c k
theorem fa_q_piece {K : PySem.W.Frag} {h : Heap} {mg : Str → Option Value} (X : K.In h) (G : h.Ns mainGlobals mg) {f : Addr} {oc : Value} {od an : Option Addr} {osl : Array (Option Value)} {kV doc pm cdv ct : Value}
    (a : PySem.W.nsIn K mainGlobals "_law_piece" = some (some (.ref f))) (l : K.lookup f = some ⟨oc, od, .func (PySem.W.fnOf "_law_piece" "_law_piece" (defArgs s_q_piece) (defBody s_q_piece) (defScope s_q_piece) .none kV doc pm an cdv ct), osl⟩) (c : PySem.W.codeIn K cdv "_law_piece" = true) (k : PySem.W.keepIn K (.ref f) = true) :
    FunAt K mg "_law_piece" s_q_piece ["_law_line"] := funAt_mk X G (fun _ _ _ _ _ _ us hl => match us, hl with | [_], _ => rfl) a l c k
theorem fa_p_is_piece {K : PySem.W.Frag} {h : Heap} {mg : Str → Option Value} (X : K.In h) (G : h.Ns mainGlobals mg) {f : Addr} {oc : Value} {od an : Option Addr} {osl : Array (Option Value)} {kV doc pm cdv ct : Value}
    (a : PySem.W.nsIn K mainGlobals "is_piece" = some (some (.ref f))) (l : K.lookup f = some ⟨oc, od, .func (PySem.W.fnOf "is_piece" "is_piece" (defArgs s_p_is_piece) (defBody s_p_is_piece) (defScope s_p_is_piece) .none kV doc pm an cdv ct), osl⟩) (c : PySem.W.codeIn K cdv "is_piece" = true) (k : PySem.W.keepIn K (.ref f) = true) :
    FunAt K mg "is_piece" s_p_is_piece ["thing"] := funAt_mk X G (fun _ _ _ _ _ _ us hl => match us, hl with | [_], _ => rfl) a l c k
theorem fa_q_text {K : PySem.W.Frag} {h : Heap} {mg : Str → Option Value} (X : K.In h) (G : h.Ns mainGlobals mg) {f : Addr} {oc : Value} {od an : Option Addr} {osl : Array (Option Value)} {kV doc pm cdv ct : Value}
    (a : PySem.W.nsIn K mainGlobals "_law_text" = some (some (.ref f))) (l : K.lookup f = some ⟨oc, od, .func (PySem.W.fnOf "_law_text" "_law_text" (defArgs s_q_text) (defBody s_q_text) (defScope s_q_text) .none kV doc pm an cdv ct), osl⟩) (c : PySem.W.codeIn K cdv "_law_text" = true) (k : PySem.W.keepIn K (.ref f) = true) :
    FunAt K mg "_law_text" s_q_text ["_law_script", "_law_at", "_law_most"] := funAt_mk X G (fun _ _ _ _ _ _ us hl => match us, hl with | [_, _, _], _ => rfl) a l c k
theorem fa_q_is_letter {K : PySem.W.Frag} {h : Heap} {mg : Str → Option Value} (X : K.In h) (G : h.Ns mainGlobals mg) {f : Addr} {oc : Value} {od an : Option Addr} {osl : Array (Option Value)} {kV doc pm cdv ct : Value}
    (a : PySem.W.nsIn K mainGlobals "_law_is_letter" = some (some (.ref f))) (l : K.lookup f = some ⟨oc, od, .func (PySem.W.fnOf "_law_is_letter" "_law_is_letter" (defArgs s_q_is_letter) (defBody s_q_is_letter) (defScope s_q_is_letter) .none kV doc pm an cdv ct), osl⟩) (c : PySem.W.codeIn K cdv "_law_is_letter" = true) (k : PySem.W.keepIn K (.ref f) = true) :
    FunAt K mg "_law_is_letter" s_q_is_letter ["_law_thing"] := funAt_mk X G (fun _ _ _ _ _ _ us hl => match us, hl with | [_], _ => rfl) a l c k
theorem fa_p_read {K : PySem.W.Frag} {h : Heap} {mg : Str → Option Value} (X : K.In h) (G : h.Ns mainGlobals mg) {f : Addr} {oc : Value} {od an : Option Addr} {osl : Array (Option Value)} {kV doc pm cdv ct : Value}
    (a : PySem.W.nsIn K mainGlobals "read" = some (some (.ref f))) (l : K.lookup f = some ⟨oc, od, .func (PySem.W.fnOf "read" "read" (defArgs s_p_read) (defBody s_p_read) (defScope s_p_read) .none kV doc pm an cdv ct), osl⟩) (c : PySem.W.codeIn K cdv "read" = true) (k : PySem.W.keepIn K (.ref f) = true) :
    FunAt K mg "read" s_p_read ["text"] := funAt_mk X G (fun _ _ _ _ _ _ us hl => match us, hl with | [_], _ => rfl) a l c k
theorem fa_q_letter {K : PySem.W.Frag} {h : Heap} {mg : Str → Option Value} (X : K.In h) (G : h.Ns mainGlobals mg) {f : Addr} {oc : Value} {od an : Option Addr} {osl : Array (Option Value)} {kV doc pm cdv ct : Value}
    (a : PySem.W.nsIn K mainGlobals "_law_letter" = some (some (.ref f))) (l : K.lookup f = some ⟨oc, od, .func (PySem.W.fnOf "_law_letter" "_law_letter" (defArgs s_q_letter) (defBody s_q_letter) (defScope s_q_letter) .none kV doc pm an cdv ct), osl⟩) (c : PySem.W.codeIn K cdv "_law_letter" = true) (k : PySem.W.keepIn K (.ref f) = true) :
    FunAt K mg "_law_letter" s_q_letter ["_law_script", "_law_at", "_law_size", "_law_most"] := funAt_mk X G (fun _ _ _ _ _ _ us hl => match us, hl with | [_, _, _, _], _ => rfl) a l c k
theorem fa_q_due {K : PySem.W.Frag} {h : Heap} {mg : Str → Option Value} (X : K.In h) (G : h.Ns mainGlobals mg) {f : Addr} {oc : Value} {od an : Option Addr} {osl : Array (Option Value)} {kV doc pm cdv ct : Value}
    (a : PySem.W.nsIn K mainGlobals "_law_due" = some (some (.ref f))) (l : K.lookup f = some ⟨oc, od, .func (PySem.W.fnOf "_law_due" "_law_due" (defArgs s_q_due) (defBody s_q_due) (defScope s_q_due) .none kV doc pm an cdv ct), osl⟩) (c : PySem.W.codeIn K cdv "_law_due" = true) (k : PySem.W.keepIn K (.ref f) = true) :
    FunAt K mg "_law_due" s_q_due ["_law_text_here"] := funAt_mk X G (fun _ _ _ _ _ _ us hl => match us, hl with | [_], _ => rfl) a l c k
theorem la_law {K : PySem.W.Frag} {h : Heap} {mg : Str → Option Value} (X : K.In h) (G : h.Ns mainGlobals mg) {fa f : Addr} {oc : Value} {od an : Option Addr} {osl : Array (Option Value)} {kV doc pm cdv ct : Value} (hfa : mg "law" = some (.ref fa))
    (a : PySem.W.nsIn K mainGlobals "law" = some (some (.ref f))) (l : K.lookup f = some ⟨oc, od, .func (PySem.W.fnOf "law" "law" (defArgs s_law) (defBody s_law) (defScope s_law) .none kV doc pm an cdv ct), osl⟩) (c : PySem.W.codeIn K cdv "law" = true) (k : PySem.W.keepIn K (.ref f) = true) :
    ∃ fd : FuncData, Fun K "law" "law" s_law fa fd ∧ (∀ (s : Shared) (u : Value), BindsTo s fd ⟨[u], []⟩ [("_law_script", u)]) := by
  have e := hfa.symm.trans (PySem.W.mg_of X G a)
  cases e
  exact ⟨_, fun_mk l c k, fun s u => .of_eq rfl⟩
end DD
open PySem PySem.W PyProof.Rows
set_option maxRecDepth 100000 in
set_option maxHeartbeats 0 in
theorem PySem.Challenge.cw_rollmend_k17_lines_refused_holds : PySem.Challenge.rw_rollmend_k17_lines_refused.Holds := by
  w_on; o_law; k_head; (case hw => w_witness2)
  k_fill
  refine DD.law_end (l := PySem.Challenge.rw_rollmend_k17_lines_refused) (st := DD.s_law) (N := DD.n_law) (s := DD.b_law) (k := 4) (x := "_law_script") rfl rfl ⟨rfl, by decide, by decide⟩ (fun w h Y => PySem.W.kIn_of Y) DD.sc_law DD.law_true ?F
  case F =>
    intro w mg fa h KX G hmg
    have f_law := by
      refine' DD.la_law KX G hmg ?za ?zl ?zc ?zk
      (case za => k_is); (case zl => k_is); (case zc => k_is); (case zk => k_is)
    have f_p_is_whole := by
      refine' DD.fa_p_is_whole KX G ?za ?zl ?zc ?zk
      (case za => k_is); (case zl => k_is); (case zc => k_is); (case zk => k_is)
    have f_p_worth := by
      refine' DD.fa_p_worth KX G ?za ?zl ?zc ?zk
      (case za => k_is); (case zl => k_is); (case zc => k_is); (case zk => k_is)
    have f_p_lnumber_of := by
      refine' DD.fa_p_lnumber_of KX G ?za ?zl ?zc ?zk
      (case za => k_is); (case zl => k_is); (case zc => k_is); (case zk => k_is)
    have f_q_cell_at := by
      refine' DD.fa_q_cell_at KX G ?za ?zl ?zc ?zk
      (case za => k_is); (case zl => k_is); (case zc => k_is); (case zk => k_is)
    have f_q_whole := by
      refine' DD.fa_q_whole KX G ?za ?zl ?zc ?zk
      (case za => k_is); (case zl => k_is); (case zc => k_is); (case zk => k_is)
    have f_q_lines := by
      refine' DD.fa_q_lines KX G ?za ?zl ?zc ?zk
      (case za => k_is); (case zl => k_is); (case zc => k_is); (case zk => k_is)
    have f_q_spoilt := by
      refine' DD.fa_q_spoilt KX G ?za ?zl ?zc ?zk
      (case za => k_is); (case zl => k_is); (case zc => k_is); (case zk => k_is)
    have f_q_number := by
      refine' DD.fa_q_number KX G ?za ?zl ?zc ?zk
      (case za => k_is); (case zl => k_is); (case zc => k_is); (case zk => k_is)
    have f_p_is_text := by
      refine' DD.fa_p_is_text KX G ?za ?zl ?zc ?zk
      (case za => k_is); (case zl => k_is); (case zc => k_is); (case zk => k_is)
    have f_p_piece_of := by
      refine' DD.fa_p_piece_of KX G ?za ?zl ?zc ?zk
      (case za => k_is); (case zl => k_is); (case zc => k_is); (case zk => k_is)
    have f_q_mixed := by
      refine' DD.fa_q_mixed KX G ?za ?zl ?zc ?zk
      (case za => k_is); (case zl => k_is); (case zc => k_is); (case zk => k_is)
    have f_q_is_piece := by
      refine' DD.fa_q_is_piece KX G ?za ?zl ?zc ?zk
      (case za => k_is); (case zl => k_is); (case zc => k_is); (case zk => k_is)
    have f_q_piece := by
      refine' DD.fa_q_piece KX G ?za ?zl ?zc ?zk
      (case za => k_is); (case zl => k_is); (case zc => k_is); (case zk => k_is)
    have f_p_is_piece := by
      refine' DD.fa_p_is_piece KX G ?za ?zl ?zc ?zk
      (case za => k_is); (case zl => k_is); (case zc => k_is); (case zk => k_is)
    have f_q_text := by
      refine' DD.fa_q_text KX G ?za ?zl ?zc ?zk
      (case za => k_is); (case zl => k_is); (case zc => k_is); (case zk => k_is)
    have f_q_is_letter := by
      refine' DD.fa_q_is_letter KX G ?za ?zl ?zc ?zk
      (case za => k_is); (case zl => k_is); (case zc => k_is); (case zk => k_is)
    have f_p_read := by
      refine' DD.fa_p_read KX G ?za ?zl ?zc ?zk
      (case za => k_is); (case zl => k_is); (case zc => k_is); (case zk => k_is)
    have f_q_letter := by
      refine' DD.fa_q_letter KX G ?za ?zl ?zc ?zk
      (case za => k_is); (case zl => k_is); (case zc => k_is); (case zk => k_is)
    have f_q_due := by
      refine' DD.fa_q_due KX G ?za ?zl ?zc ?zk
      (case za => k_is); (case zl => k_is); (case zc => k_is); (case zk => k_is)
    have g_ValueError := by
      refine' DD.noneAt KX G "ValueError" ?za
      (case za => k_is)
    have g_all := by
      refine' DD.noneAt KX G "all" ?za
      (case za => k_is)
    have g_bool := by
      refine' DD.noneAt KX G "bool" ?za
      (case za => k_is)
    have g_int := by
      refine' DD.noneAt KX G "int" ?za
      (case za => k_is)
    have g_isinstance := by
      refine' DD.noneAt KX G "isinstance" ?za
      (case za => k_is)
    have g_len := by
      refine' DD.noneAt KX G "len" ?za
      (case za => k_is)
    have g_list := by
      refine' DD.noneAt KX G "list" ?za
      (case za => k_is)
    have g_ord := by
      refine' DD.noneAt KX G "ord" ?za
      (case za => k_is)
    have g_range := by
      refine' DD.noneAt KX G "range" ?za
      (case za => k_is)
    have g_str := by
      refine' DD.noneAt KX G "str" ?za
      (case za => k_is)
    have g_tuple := by
      refine' DD.noneAt KX G "tuple" ?za
      (case za => k_is)
    have c_FIGURES := by
      refine' DD.strAt KX G "FIGURES" ?za
      (case za => k_is)
    have c_PIECES := by
      refine' DD.intAt KX G "PIECES" ?za
      (case za => k_is)
    have c_SIGNS := by
      refine' DD.intAt KX G "SIGNS" ?za
      (case za => k_is)
    have e_NoLines := by
      refine' DD.errC_mk (x := "NoLines") KX G ?za ?zq ?zk ?zb ?zt
      (case za => k_is); (case zq => k_exc); (case zk => k_is); (case zb => k_is); (case zt => k_is)
    have q_MendError := by
      refine' DD.clsC_mk (x := "MendError") KX G ?za
      (case za => k_is)
    have q_NoLetter := by
      refine' DD.clsC_mk (x := "NoLetter") KX G ?za
      (case za => k_is)
    have q_NoLines := by
      refine' DD.clsC_mk (x := "NoLines") KX G ?za
      (case za => k_is)
    have xc_NoLines := by
      refine' DD.excC_mk e_NoLines ?z1 ?z2 ?z3 ?z4 ?z5 ?z6 ?z7
      (case z1 => k_is); (case z2 => k_is); (case z3 => k_is); (case z4 => k_is); (case z5 => k_is); (case z6 => k_is); (case z7 => k_is)
    have kt_NoLines_MendError := by
      refine' DD.kit_mk e_NoLines q_MendError true (.inr rfl) ?z1 ?z2 ?z3
      (case z1 => k_is); (case z2 => k_is); (case z3 => k_is)
    have kt_NoLines_NoLetter := by
      refine' DD.kit_mk e_NoLines q_NoLetter false (.inl (by decide)) ?z1 ?z2 ?z3
      (case z1 => k_is); (case z2 => k_is); (case z3 => k_is)
    have kt_NoLines_ValueError := by
      refine' DD.kitV_mk e_NoLines "ValueError" true (by decide +kernel) ?za
      (case za => k_is)
    have xm_NoLines_NoLines := by
      refine' DD.exm_mk e_NoLines q_NoLines true ?z1 ?z2 ?z3 ?z4
      (case z1 => k_is); (case z2 => k_is); (case z3 => k_is); (case z4 => k_is)
    obtain ⟨fd, hF, hb⟩ := f_law
    refine ⟨⟨fun c => if c = 7 then e_NoLines.addr else if c = 8 then q_MendError.addr else if c = 4 then q_NoLetter.addr else 0, 0, fun _ => False⟩, fd, hF, hb, fun base X1 G1 => DD.bd_law ?_⟩
    exact { f_p_is_whole := f_p_is_whole, f_p_worth := f_p_worth, f_p_lnumber_of := f_p_lnumber_of, f_q_cell_at := f_q_cell_at, f_q_whole := f_q_whole, f_q_lines := f_q_lines, f_q_spoilt := f_q_spoilt, f_q_number := f_q_number, f_p_is_text := f_p_is_text, f_p_piece_of := f_p_piece_of, f_q_mixed := f_q_mixed, f_q_is_piece := f_q_is_piece, f_q_piece := f_q_piece, f_p_is_piece := f_p_is_piece, f_q_text := f_q_text, f_q_is_letter := f_q_is_letter, f_p_read := f_p_read, f_q_letter := f_q_letter, f_q_due := f_q_due, g_ValueError := g_ValueError, g_all := g_all, g_bool := g_bool, g_int := g_int, g_isinstance := g_isinstance, g_len := g_len, g_list := g_list, g_ord := g_ord, g_range := g_range, g_str := g_str, g_tuple := g_tuple, c_FIGURES := c_FIGURES, c_PIECES := c_PIECES, c_SIGNS := c_SIGNS, e_NoLines := e_NoLines.at rfl, q_MendError := q_MendError.g, q_NoLetter := q_NoLetter.g, q_NoLines := q_NoLines.g, xc_NoLines := xc_NoLines, kt_NoLines_MendError := kt_NoLines_MendError, kt_NoLines_NoLetter := kt_NoLines_NoLetter, kt_NoLines_ValueError := kt_NoLines_ValueError, xm_NoLines_NoLines := xm_NoLines_NoLines }
