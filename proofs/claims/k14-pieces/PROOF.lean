import PyProof.Rows.All
import Wide.All
import OpenK.AllK
import Wide.FinOn
import HandS.ForMost
import HandS.Exc
import HandS.TryOnly
import HandS.ExcOwn
import HandS.WordsExc
import HandS.TryMany
import HandS.Wide
import HandS.Rev
import HandS.IsInst
import HandS.ExcIs
import HandS.Deep
import PySem.Challenge.RW_polyarith_k14_parts_of_pieces
set_option Elab.async false
set_option linter.all false
set_option maxRecDepth 100000
set_option maxHeartbeats 4000000
set_option exponentiation.threshold 10000
namespace Pa
open PySem PySem.Spec PyProof.Rows L2
abbrev St := L2.St

/-! ### owned objects over a heap -/
abbrev Fs := List (Addr × HO)
def Kn (H0 : Hp) : Fs → Hp → Prop
  | [], H => Same H0 H
  | x :: fs, H => H x.1 = some x.2 ∧ ∃ H1, Same H1 H ∧ H1 x.1 = none ∧ Kn H0 fs H1
theorem Kn.same {H0 : Hp} : ∀ {fs : Fs} {H : Hp}, Kn H0 fs H → Same H0 H
  | [], _, h => h
  | _ :: _, _, ⟨_, _, s, _, k⟩ => (Kn.same k).trans s
theorem Kn.ext {H0 : Hp} : ∀ {fs : Fs} {H H' : Hp}, Kn H0 fs H → Same H H' → Kn H0 fs H'
  | [], _, _, h, s => Same.trans h s
  | _ :: _, _, _, ⟨e, H1, s1, n, k⟩, s => ⟨s _ _ e, H1, s1.trans s, n, k⟩
theorem same_upd {H : Hp} {p : Addr} {o : HO} (h : H p = none) : Same H (upd H p o) := fun b x e => by
  rw [upd_ne (ne_of_none e h)]
  exact e
theorem Kn.new {H0 H : Hp} {fs : Fs} {p : Addr} {o : HO} (k : Kn H0 fs H) (h : H p = none) : Kn H0 ((p, o) :: fs) (upd H p o) :=
  ⟨upd_same, H, same_upd h, h, k⟩
theorem Kn.get {H0 : Hp} : ∀ {fs : Fs} {H : Hp} {p : Addr} {o : HO}, Kn H0 fs H → (p, o) ∈ fs → H p = some o
  | _ :: _, _, _, _, ⟨e, _⟩, .head _ => e
  | _ :: _, _, _, _, ⟨_, _, s, _, k⟩, .tail _ m => s _ _ (Kn.get k m)
theorem Kn.fresh {H0 H : Hp} {fs : Fs} {p : Addr} (k : Kn H0 fs H) (h : H p = none) : H0 p = none := k.same.free h
theorem Kn.out {H0 : Hp} : ∀ {fs : Fs} {H : Hp} {p : Addr} {o : HO}, Kn H0 fs H → (p, o) ∈ fs → H0 p = none
  | _ :: _, _, _, _, ⟨_, _, _, n, k⟩, .head _ => k.same.free n
  | _ :: _, _, _, _, ⟨_, _, _, _, k⟩, .tail _ m => Kn.out k m
theorem Kn.put {H0 : Hp} : ∀ {fs : Fs} {H : Hp} {i : Nat} {p : Addr} {o o' : HO}, Kn H0 fs H → fs[i]? = some (p, o) → Kn H0 (fs.set i (p, o')) (upd H p o')
  | [], _, _, _, _, _, _, h => by simp at h
  | x :: fs, H, 0, p, o, o', ⟨e, H1, s, n, k⟩, h => by
    have ex : x = (p, o) := Option.some.inj h
    subst ex
    exact ⟨upd_same, H1, fun b u q => by rw [upd_ne (ne_of_none q n)]; exact s _ _ q, n, k⟩
  | x :: fs, H, i + 1, p, o, o', ⟨e, H1, s, n, k⟩, h => by
    have h' : fs[i]? = some (p, o) := by simpa using h
    have hp : H1 p = some o := k.get (List.mem_of_getElem? h')
    have ne : x.1 ≠ p := fun z => by rw [z, hp] at n; cases n
    refine ⟨by rw [upd_ne ne]; exact e, upd H1 p o', fun b u q => ?_, by rw [upd_ne ne]; exact n, Kn.put k h'⟩
    by_cases hb : b = p
    · subst hb; rw [upd_same] at q ⊢; exact q
    · rw [upd_ne hb] at q ⊢; exact s _ _ q
theorem Kn.app {H0 H : Hp} {fs : Fs} (k : Kn H0 fs H) : ∀ {fs' : Fs} {H' : Hp}, Kn H fs' H' → Kn H0 (fs' ++ fs) H'
  | [], _, k' => k.ext k'
  | _ :: _, _, ⟨e, H1, s, n, k'⟩ => ⟨e, H1, s, n, Kn.app k k'⟩
theorem Kn.drop {H0 H : Hp} {x : Addr × HO} {fs : Fs} (k : Kn H0 (x :: fs) H) : Kn H0 fs H := by
  obtain ⟨_, H1, s, _, k⟩ := k
  exact k.ext s
theorem Kn.sub {H0 : Hp} : ∀ {fs fs' : Fs} {H : Hp}, List.Sublist fs' fs → Kn H0 fs H → Kn H0 fs' H
  | _, _, _, .slnil, k => k
  | _, _, _, .cons _ s, k => Kn.sub s k.drop
  | _, _, _, .cons_cons _ s, ⟨e, H1, t, n, k⟩ => ⟨e, H1, t, n, Kn.sub s k⟩
/-- seen from a later heap -/
theorem Kn.ne {H0 : Hp} {x : Addr × HO} {fs : Fs} {H : Hp} {p : Addr} {o : HO} (k : Kn H0 (x :: fs) H) (m : (p, o) ∈ fs) : x.1 ≠ p := by
  obtain ⟨_, H1, _, n, k⟩ := k
  intro e
  rw [e, k.get m] at n
  cases n
theorem Kn.swap {H0 : Hp} {x y : Addr × HO} {fs : Fs} {H : Hp} (k : Kn H0 (x :: y :: fs) H) : Kn H0 (y :: x :: fs) H := by
  obtain ⟨ex, H1, s1, n1, ey, H2, s2, n2, k⟩ := k
  have ne : x.1 ≠ y.1 := fun z => by rw [z, ey] at n1; cases n1
  have hx2 : H2 x.1 = none := s2.free n1
  refine ⟨s1 _ _ ey, upd H2 x.1 x.2, fun b u q => ?_, ?_, upd_same, H2, same_upd hx2, hx2, k⟩
  · by_cases hb : b = x.1
    · subst hb; rw [upd_same] at q; cases q; exact ex
    · rw [upd_ne hb] at q; exact s1 _ _ (s2 _ _ q)
  · rw [upd_ne (Ne.symm ne)]; exact n2

/-! ### what may be read -/
def Rl (K : PySem.W.Frag) (H0 : Hp) (fs : Fs) (a : Addr) (xs : List V) : Prop := ∀ H, Kn H0 fs H → SqL K H a xs
def Rt (K : PySem.W.Frag) (H0 : Hp) (fs : Fs) (a : Addr) (xs : List V) : Prop := ∀ H, Kn H0 fs H → SqT K H a xs
/-- an exact object -/
def Rx (H0 : Hp) (fs : Fs) (a : Addr) (o : HO) : Prop := ∀ H, Kn H0 fs H → H a = some o
section
variable {K : PySem.W.Frag} {H0 : Hp} {fs fs' : Fs} {a : Addr} {xs : List V} {o : HO}
theorem Rx.own (m : (a, o) ∈ fs) : Rx H0 fs a o := fun _ k => k.get m
theorem Rx.arg (h : H0 a = some o) : Rx H0 fs a o := fun _ k => k.same _ _ h
theorem Rl.x (h : Rx H0 fs a (.lst xs)) : Rl K H0 fs a xs := fun H k => SqL.of (h H k)
theorem Rl.sq (h : SqL K H0 a xs) : Rl K H0 fs a xs := fun _ k => k.same.seq h
theorem Rt.x (h : Rx H0 fs a (.tup xs)) : Rt K H0 fs a xs := fun H k => SqT.of (h H k)
end

/-! ### zV -/
def zV (ns : List Int) : List V := ns.map V.int
theorem zV_length (ns : List Int) : (zV ns).length = ns.length := List.length_map _
theorem zV_get {ns : List Int} {i : Nat} {x : Int} (h : ns[i]? = some x) : (zV ns)[i]? = some (.int x) := by
  unfold zV
  rw [List.getElem?_map, h]; rfl
/-- the number at a place -/
def gat (ns : List Int) (i : Int) : Int := ns.getD i.toNat 0
theorem gat_nat (ns : List Int) (i : Nat) : gat ns (i : Int) = ns.getD i 0 := by unfold gat; simp
theorem atI_zV {ns : List Int} {i : Int} (h0 : 0 ≤ i) (h1 : i < (ns.length : Int)) : atI (zV ns) i = some (.int (gat ns i)) := by
  obtain ⟨k, rfl⟩ := Int.eq_ofNat_of_zero_le h0
  have hk : k < ns.length := by omega
  refine atI_nat (zV_get ?_)
  rw [gat_nat, List.getD_eq_getElem?_getD, List.getElem?_eq_getElem hk]; rfl
theorem ixN_nat {n j : Nat} (hj : j < n) : ixN n (j : Int) = some j := by
  unfold ixN
  rw [if_pos (by omega), if_pos (by omega)]
  simp
theorem ixN_int {n : Nat} {i : Int} (h0 : 0 ≤ i) (h1 : i < (n : Int)) : ixN n i = some i.toNat := by
  unfold ixN
  rw [if_pos h0, if_pos h1]
theorem zV_set (ns : List Int) (i : Nat) (x : Int) : (zV ns).set i (.int x) = zV (ns.set i x) := by
  unfold zV; rw [List.map_set]
theorem zV_app (ns ms : List Int) : zV ns ++ zV ms = zV (ns ++ ms) := by
  unfold zV; rw [List.map_append]
theorem atI_lastI {ns : List Int} (h : ns ≠ []) : atI (zV ns) (-1) = some (.int (ns.getLast h)) := by
  have e : zV ns = zV ns.dropLast ++ [.int (ns.getLast h)] := by
    have := zV_app ns.dropLast [ns.getLast h]
    rw [List.dropLast_concat_getLast] at this
    exact this.symm
  rw [e]; exact atI_last _ _
theorem sz_le {n : Nat} (h : n ≤ 1000000) : n ≤ sizeLine := Nat.le_trans h (by decide)
theorem sz_lt {n : Nat} (h : n < 1000000) : n < sizeLine := Nat.lt_of_lt_of_le h (by decide)
end Pa

namespace Pa
open PySem PySem.Spec PyProof.Rows L2

/-! ### readings over owned objects -/
abbrev CV := V → Fs → Prop
def W (te : TE) (σ : St) (H0 : Hp) (fs : Fs) (Φ : CV) : Prop := ∀ H, Kn H0 fs H → ∀ Q : VK, (∀ v fs' H', Kn H0 fs' H' → Φ v fs' → Q v H') → te σ H Q
def WT (tt : TT) (σ : St) (H0 : Hp) (fs : Fs) (Φ : Bool → Fs → Prop) : Prop := ∀ H, Kn H0 fs H → ∀ Q : Bool → Hp → Prop, (∀ v fs' H', Kn H0 fs' H' → Φ v fs' → Q v H') → tt σ H Q
def WA (ta : TA) (σ : St) (H0 : Hp) (fs : Fs) (Φ : List V → Fs → Prop) : Prop := ∀ H, Kn H0 fs H → ∀ Q : List V → Hp → Prop, (∀ v fs' H', Kn H0 fs' H' → Φ v fs' → Q v H') → ta σ H Q
def WO (tn : TO) (σ : St) (H0 : Hp) (fs : Fs) (Φ : Option Int → Fs → Prop) : Prop := ∀ H, Kn H0 fs H → ∀ Q : Option Int → Hp → Prop, (∀ v fs' H', Kn H0 fs' H' → Φ v fs' → Q v H') → tn σ H Q
/-- an operation on two values, a call on values -/
def RW (r : R2) (x y : V) (H0 : Hp) (fs : Fs) (Φ : CV) : Prop := ∀ H, Kn H0 fs H → ∀ Q : VK, (∀ v fs' H', Kn H0 fs' H' → Φ v fs' → Q v H') → r x y H Q
def RU (r : V → Hp → VK → Prop) (x : V) (H0 : Hp) (fs : Fs) (Φ : CV) : Prop := ∀ H, Kn H0 fs H → ∀ Q : VK, (∀ v fs' H', Kn H0 fs' H' → Φ v fs' → Q v H') → r x H Q
def RC (r : List V → Hp → VK → Prop) (vs : List V) (H0 : Hp) (fs : Fs) (Φ : CV) : Prop := ∀ H, Kn H0 fs H → ∀ Q : VK, (∀ v fs' H', Kn H0 fs' H' → Φ v fs' → Q v H') → r vs H Q
def RM (r : V → List V → Hp → VK → Prop) (x : V) (vs : List V) (H0 : Hp) (fs : Fs) (Φ : CV) : Prop := ∀ H, Kn H0 fs H → ∀ Q : VK, (∀ v fs' H', Kn H0 fs' H' → Φ v fs' → Q v H') → r x vs H Q
def RS (r : V → Option Int → Option Int → Hp → VK → Prop) (x : V) (lo hi : Option Int) (H0 : Hp) (fs : Fs) (Φ : CV) : Prop := ∀ H, Kn H0 fs H → ∀ Q : VK, (∀ v fs' H', Kn H0 fs' H' → Φ v fs' → Q v H') → r x lo hi H Q
/-- a call's promise -/
def WC (sp : Sp) (vs : List V) (H0 : Hp) (fs : Fs) (Φ : CV) : Prop := ∀ H, Kn H0 fs H → ∀ (Q : VK) (E : XK), (∀ v fs' H', Kn H0 fs' H' → Φ v fs' → Q v H') → sp vs H Q E
/-- statements: what must hold behind -/
def N (e : St → Hp → Prop) (σ : St) (H0 : Hp) (fs : Fs) : Prop := ∀ H, Kn H0 fs H → e σ H
/-- a value handed back -/
def NR (Q : VK) (v : V) (H0 : Hp) (fs : Fs) : Prop := ∀ H, Kn H0 fs H → Q v H

section
variable {σ : St} {H0 : Hp} {fs : Fs} {Φ : CV} {ta tb tc te : TE} {t u : TT} {i : Nat} {v x y : V} {r r' : R2} {K : PySem.W.Frag} {tr : TA} {ΦT : Bool → Fs → Prop} {ΦA : List V → Fs → Prop}

theorem W.var (h : σ[i]? = some (some v)) (q : Φ v fs) : W (tVar i) σ H0 fs Φ := fun H k _ c => ⟨v, h, c v fs H k q⟩
theorem W.c (q : Φ v fs) : W (tC v) σ H0 fs Φ := fun H k _ c => c v fs H k q
theorem W.op (h : W ta σ H0 fs fun x f1 => W tb σ H0 f1 fun y f2 => RW r x y H0 f2 Φ) : W (tOp r ta tb) σ H0 fs Φ := fun H k Q c =>
  h H k _ fun _ _ H1 k1 h1 => h1 H1 k1 _ fun _ _ H2 k2 h2 => h2 H2 k2 Q c
theorem W.un {r : V → Hp → VK → Prop} (h : W ta σ H0 fs fun x f1 => RU r x H0 f1 Φ) : W (tUn r ta) σ H0 fs Φ := fun H k Q c =>
  h H k _ fun _ _ H1 k1 h1 => h1 H1 k1 Q c
theorem RW.i0 {g : Int → Int → V} {i j : Int} (q : Φ (g i j) fs) : RW (rI0 g) (.int i) (.int j) H0 fs Φ := fun H k _ c => ⟨i, j, rfl, rfl, c _ fs H k q⟩
theorem RW.i1 {C : Int → Int → Prop} {g : Int → Int → V} {i j : Int} (hc : C i j) (q : Φ (g i j) fs) : RW (rI C g) (.int i) (.int j) H0 fs Φ := fun H k _ c => ⟨i, j, rfl, rfl, hc, c _ fs H k q⟩
theorem RU.int {g : Int → V} {i : Int} (q : Φ (g i) fs) : RU (rU g) (.int i) H0 fs Φ := fun H k _ c => ⟨i, rfl, c _ fs H k q⟩
theorem RW.eqI {i j : Int} (q : Φ (.bl (decide (i = j))) fs) : RW rEq (.int i) (.int j) H0 fs Φ := fun H k Q c => ⟨rfl, by
  have e : decide (V.int i = V.int j) = decide (i = j) := by rw [dec_int, Bool.beq_eq_decide_eq]
  rw [e]; exact c _ fs H k q⟩
theorem RW.neI {i j : Int} (q : Φ (.bl (!decide (i = j))) fs) : RW rNe (.int i) (.int j) H0 fs Φ := fun H k Q c => ⟨rfl, by
  have e : decide (V.int i = V.int j) = decide (i = j) := by rw [dec_int, Bool.beq_eq_decide_eq]
  rw [e]; exact c _ fs H k q⟩
theorem RW.eqS {i j : Str} (q : Φ (.bl (decide (i = j))) fs) : RW rEq (.str i) (.str j) H0 fs Φ := fun H k Q c => ⟨rfl, by
  have e : decide (V.str i = V.str j) = decide (i = j) := by rw [dec_str, Bool.beq_eq_decide_eq]
  rw [e]; exact c _ fs H k q⟩
theorem RW.neS {i j : Str} (q : Φ (.bl (!decide (i = j))) fs) : RW rNe (.str i) (.str j) H0 fs Φ := fun H k Q c => ⟨rfl, by
  have e : decide (V.str i = V.str j) = decide (i = j) := by rw [dec_str, Bool.beq_eq_decide_eq]
  rw [e]; exact c _ fs H k q⟩

/-! ### arguments, displays -/
theorem WA.nil (q : ΦA [] fs) : WA tNil σ H0 fs ΦA := fun H k _ c => c [] fs H k q
theorem WA.cons (h : W ta σ H0 fs fun x f1 => WA tr σ H0 f1 fun xs f2 => ΦA (x :: xs) f2) : WA (tCons ta tr) σ H0 fs ΦA := fun H k Q c =>
  h H k _ fun _ _ H1 k1 h1 => h1 H1 k1 _ fun _ _ H2 k2 h2 => c _ _ H2 k2 h2
theorem W.lst (h : WA tr σ H0 fs fun vs f1 => vs.length ≤ 1000000 ∧ ∀ p, Φ (.ref p) ((p, .lst vs) :: f1)) : W (tLst tr) σ H0 fs Φ := fun H k Q c =>
  h H k _ fun _ _ H1 k1 h1 => ⟨sz_le h1.1, fun p hp => c _ _ _ (k1.new hp) (h1.2 p)⟩
theorem W.tup (h : WA tr σ H0 fs fun vs f1 => vs.length ≤ 1000000 ∧ ∀ p, Φ (.ref p) ((p, .tup vs) :: f1)) : W (tTup tr) σ H0 fs Φ := fun H k Q c =>
  h H k _ fun _ _ H1 k1 h1 => ⟨sz_le h1.1, fun p hp => c _ _ _ (k1.new hp) (h1.2 p)⟩
theorem W.cb {r : List V → Hp → VK → Prop} (h : WA tr σ H0 fs fun vs f1 => RC r vs H0 f1 Φ) : W (tCB r tr) σ H0 fs Φ := fun H k Q c =>
  h H k _ fun _ _ H1 k1 h1 => h1 H1 k1 Q c
theorem W.call {sp : Sp} {E : XK} (h : WA tr σ H0 fs fun vs f1 => WC sp vs H0 f1 Φ) : W (tCall sp [] E tr) σ H0 fs Φ := fun H k Q c =>
  h H k _ fun vs _ H1 k1 h1 => by rw [List.append_nil]; exact h1 H1 k1 Q E c

/-! ### built-ins -/
def rLen (K : PySem.W.Frag) : List V → Hp → VK → Prop := fun xs H Q => ∃ p ys, xs = [.ref p] ∧ (SqL K H p ys ∨ SqT K H p ys) ∧ Q (.int ys.length) H
def rLenS : List V → Hp → VK → Prop := fun xs H Q => ∃ z, xs = [.str z] ∧ z.length ≤ sizeLine ∧ Q (.int z.length) H
def rAbs : List V → Hp → VK → Prop := fun xs H Q => ∃ i, xs = [.int i] ∧ Q (.int (if i < 0 then -i else i)) H
def rMax2 : List V → Hp → VK → Prop := fun xs H Q => ∃ i j, xs = [.int i, .int j] ∧ Q (.int (if j > i then j else i)) H
def rMin2 : List V → Hp → VK → Prop := fun xs H Q => ∃ i j, xs = [.int i, .int j] ∧ Q (.int (if j < i then j else i)) H
def rListOf (K : PySem.W.Frag) : List V → Hp → VK → Prop := fun xs H Q => ∃ p ys, xs = [.ref p] ∧ (SqL K H p ys ∨ SqT K H p ys) ∧ ∀ l, H l = none → Q (.ref l) (upd H l (.lst ys))
def rTupOf (K : PySem.W.Frag) : List V → Hp → VK → Prop := fun xs H Q => ∃ p ys, xs = [.ref p] ∧ ((SqL K H p ys ∧ ∀ l, H l = none → Q (.ref l) (upd H l (.tup ys))) ∨ (SqT K H p ys ∧ Q (.ref p) H))
section
variable {X : Cx}
theorem cLen : CallR X (.builtin "len") (rLen X.K) := call_len_seq
theorem cLenS : CallR X (.builtin "len") rLenS := call_len_str
theorem cAbs : CallR X (.builtin "abs") rAbs := call_abs
theorem cMax2 (hc : X.calm = true) : CallR X (.builtin "max") rMax2 := call_max2 hc
theorem cMin2 (hc : X.calm = true) : CallR X (.builtin "min") rMin2 := call_min2 hc
theorem cListOf : CallR X (.type "list") (rListOf X.K) := call_list_of
theorem cTupOf : CallR X (.type "tuple") (rTupOf X.K) := call_tuple_of
end
theorem RC.len {p : Addr} {xs : List V} (h : Rl K H0 fs p xs) (q : Φ (.int xs.length) fs) : RC (rLen K) [.ref p] H0 fs Φ := fun H k _ c => ⟨p, xs, rfl, .inl (h H k), c _ fs H k q⟩
theorem RC.lenT {p : Addr} {xs : List V} (h : Rt K H0 fs p xs) (q : Φ (.int xs.length) fs) : RC (rLen K) [.ref p] H0 fs Φ := fun H k _ c => ⟨p, xs, rfl, .inr (h H k), c _ fs H k q⟩
theorem RC.lenZ {p : Addr} {ns : List Int} (h : Rl K H0 fs p (zV ns)) (q : Φ (.int ns.length) fs) : RC (rLen K) [.ref p] H0 fs Φ := RC.len h (by rw [zV_length]; exact q)
theorem RC.lenS {z : Str} (h : z.length ≤ 1000000) (q : Φ (.int z.length) fs) : RC rLenS [.str z] H0 fs Φ := fun H k _ c => ⟨z, rfl, sz_le h, c _ fs H k q⟩
theorem RC.abs {i : Int} (q : Φ (.int (i.natAbs : Int)) fs) : RC rAbs [.int i] H0 fs Φ := fun H k _ c => ⟨i, rfl, by
  have e : (if i < 0 then -i else i) = (i.natAbs : Int) := by split <;> omega
  rw [e]; exact c _ fs H k q⟩
theorem RC.max2 {i j : Int} (q : Φ (.int (max i j)) fs) : RC rMax2 [.int i, .int j] H0 fs Φ := fun H k _ c => ⟨i, j, rfl, by
  have e : (if j > i then j else i) = max i j := by split <;> omega
  rw [e]; exact c _ fs H k q⟩
theorem RC.min2 {i j : Int} (q : Φ (.int (min i j)) fs) : RC rMin2 [.int i, .int j] H0 fs Φ := fun H k _ c => ⟨i, j, rfl, by
  have e : (if j < i then j else i) = min i j := by split <;> omega
  rw [e]; exact c _ fs H k q⟩
theorem RC.listL {p : Addr} {xs : List V} (h : Rl K H0 fs p xs) (q : ∀ l, Φ (.ref l) ((l, .lst xs) :: fs)) : RC (rListOf K) [.ref p] H0 fs Φ := fun H k _ c => ⟨p, xs, rfl, .inl (h H k), fun l hl => c _ _ _ (k.new hl) (q l)⟩
theorem RC.listT {p : Addr} {xs : List V} (h : Rt K H0 fs p xs) (q : ∀ l, Φ (.ref l) ((l, .lst xs) :: fs)) : RC (rListOf K) [.ref p] H0 fs Φ := fun H k _ c => ⟨p, xs, rfl, .inr (h H k), fun l hl => c _ _ _ (k.new hl) (q l)⟩
theorem RC.tupL {p : Addr} {xs : List V} (h : Rl K H0 fs p xs) (q : ∀ l, Φ (.ref l) ((l, .tup xs) :: fs)) : RC (rTupOf K) [.ref p] H0 fs Φ := fun H k _ c => ⟨p, xs, rfl, .inl ⟨h H k, fun l hl => c _ _ _ (k.new hl) (q l)⟩⟩
/-- isinstance -/
theorem RC.isi {x : V} {n : String} {t : Value} {b : Bool} (ht : ∀ H, Kn H0 fs H → TyX K H x t) (hk : PySem.W.kitOne K t (.type n) = some b) (q : Φ (.bl b) fs) : RC (rIsi K) [x, .ty n] H0 fs Φ := fun H k _ c =>
  ⟨x, .ty n, t, .type n, b, rfl, .ty n, ht H k, hk, c _ fs H k q⟩

/-! ### items, slices -/
theorem RW.ixZ {p : Addr} {ns : List Int} {i : Int} (h : Rl K H0 fs p (zV ns)) (hi : 0 ≤ i ∧ i < (ns.length : Int)) (q : Φ (.int (gat ns i)) fs) : RW (rIxL K) (.ref p) (.int i) H0 fs Φ := fun H k _ c =>
  ⟨p, _, i, _, rfl, rfl, h H k, atI_zV hi.1 hi.2, c _ fs H k q⟩
theorem RW.ixL {p : Addr} {xs : List V} {i : Int} (h : Rl K H0 fs p xs) (hi : atI xs i = some v) (q : Φ v fs) : RW (rIxL K) (.ref p) (.int i) H0 fs Φ := fun H k _ c =>
  ⟨p, _, i, _, rfl, rfl, h H k, hi, c _ fs H k q⟩
theorem RW.ixT {p : Addr} {xs : List V} {i : Int} (h : Rt K H0 fs p xs) (hi : atI xs i = some v) (q : Φ v fs) : RW (rIxT K) (.ref p) (.int i) H0 fs Φ := fun H k _ c =>
  ⟨p, _, i, _, rfl, rfl, h H k, hi, c _ fs H k q⟩
theorem WO.no {Φo : Option Int → Fs → Prop} (q : Φo Option.none fs) : WO tNoPart σ H0 fs Φo := fun H k _ c => c Option.none fs H k q
theorem WO.part {Φo : Option Int → Fs → Prop} (h : W te σ H0 fs fun x f1 => ∃ i, x = .int i ∧ Φo (some i) f1) : WO (tPart te) σ H0 fs Φo := fun H k _ c =>
  h H k _ fun _ _ H1 k1 ⟨i, e, q⟩ => ⟨i, e, c _ _ H1 k1 q⟩
theorem W.sl {r : V → Option Int → Option Int → Hp → VK → Prop} {tl th : TO} (h : W te σ H0 fs fun x f1 => WO tl σ H0 f1 fun lo f2 => WO th σ H0 f2 fun hi f3 => RS r x lo hi H0 f3 Φ) : W (tSl r te tl th) σ H0 fs Φ := fun H k Q c =>
  h H k _ fun _ _ H1 k1 h1 => h1 H1 k1 _ fun _ _ H2 k2 h2 => h2 H2 k2 _ fun _ _ H3 k3 h3 => h3 H3 k3 Q c
theorem RS.l {p : Addr} {xs : List V} {lo hi : Option Int} (h : Rl K H0 fs p xs) (q : ∀ l, Φ (.ref l) ((l, .lst (cutV xs lo hi)) :: fs)) : RS (rSlL K) (.ref p) lo hi H0 fs Φ := fun H k _ c =>
  ⟨p, xs, rfl, h H k, fun l hl => c _ _ _ (k.new hl) (q l)⟩
theorem cut_take {ns : List Int} {i : Int} (h : 0 ≤ i) : cutV (zV ns) none (some i) = zV (ns.take i.toNat) := by
  obtain ⟨k, rfl⟩ := Int.eq_ofNat_of_zero_le h
  unfold cutV
  rw [HT.sIx_nat, HT.sIx_none, zV_length, List.drop_zero, Nat.sub_zero]
  unfold zV
  rw [List.map_take]
  have e : ((k : Int)).toNat = k := by simp
  rw [e]
  by_cases hk : k ≤ ns.length
  · rw [Nat.min_eq_left hk]
  · rw [Nat.min_eq_right (by omega), List.take_of_length_le (by simp), List.take_of_length_le (by simp; omega)]
theorem cut_drop {ns : List Int} {i : Int} (h : 0 ≤ i) : cutV (zV ns) (some i) none = zV (ns.drop i.toNat) := by
  obtain ⟨k, rfl⟩ := Int.eq_ofNat_of_zero_le h
  unfold cutV
  rw [HT.sIx_nat, HT.sIx_none, zV_length]
  unfold zV
  rw [List.map_drop]
  have e : ((k : Int)).toNat = k := by simp
  rw [e]
  by_cases hk : k ≤ ns.length
  · rw [Nat.min_eq_left hk, List.take_of_length_le (by simp)]
  · rw [Nat.min_eq_right (by omega), List.drop_of_length_le (by simp), List.drop_of_length_le (by simp; omega)]
    exact List.take_nil
theorem RS.take {p : Addr} {ns : List Int} {i : Int} (h : Rl K H0 fs p (zV ns)) (hi : 0 ≤ i) (q : ∀ l, Φ (.ref l) ((l, .lst (zV (ns.take i.toNat))) :: fs)) : RS (rSlL K) (.ref p) none (some i) H0 fs Φ := RS.l h (by rw [cut_take hi]; exact q)
theorem RS.drop {p : Addr} {ns : List Int} {i : Int} (h : Rl K H0 fs p (zV ns)) (hi : 0 ≤ i) (q : ∀ l, Φ (.ref l) ((l, .lst (zV (ns.drop i.toNat))) :: fs)) : RS (rSlL K) (.ref p) (some i) none H0 fs Φ := RS.l h (by rw [cut_drop hi]; exact q)

/-! ### lists joined, repeated -/
theorem RW.cat {p q : Addr} {xs ys : List V} (h1 : Rx H0 fs p (.lst xs)) (h2 : Rx H0 fs q (.lst ys)) (hl : xs.length + ys.length ≤ 1000000) (c : ∀ l, Φ (.ref l) ((l, .lst (xs ++ ys)) :: fs)) : RW rCat (.ref p) (.ref q) H0 fs Φ := fun H k _ cc =>
  ⟨p, q, xs, ys, rfl, rfl, h1 H k, h2 H k, sz_le hl, fun l hl => cc _ _ _ (k.new hl) (c l)⟩
theorem RW.catZ {p q : Addr} {xs ys : List Int} (h1 : Rx H0 fs p (.lst (zV xs))) (h2 : Rx H0 fs q (.lst (zV ys))) (hl : xs.length + ys.length ≤ 1000000) (c : ∀ l, Φ (.ref l) ((l, .lst (zV (xs ++ ys))) :: fs)) : RW rCat (.ref p) (.ref q) H0 fs Φ :=
  RW.cat h1 h2 (by rw [zV_length, zV_length]; exact hl) (by rw [zV_app]; exact c)
theorem flat_rep (x : Int) : ∀ k : Nat, (List.replicate k (zV [x])).flatten = zV (List.replicate k x)
  | 0 => rfl
  | k + 1 => by
    rw [List.replicate_succ, List.flatten_cons, flat_rep x k, List.replicate_succ]; rfl
theorem RW.rep {p : Addr} {x k : Int} (h1 : Rx H0 fs p (.lst (zV [x]))) (hk : k ≤ 1000000 ∧ -1000000 ≤ k) (c : ∀ l, Φ (.ref l) ((l, .lst (zV (List.replicate k.toNat x))) :: fs)) : RW rRep (.ref p) (.int k) H0 fs Φ := fun H kn _ cc => by
  refine ⟨p, k, zV [x], rfl, rfl, h1 H kn, by omega, by omega, sz_le (by show 1 * k.toNat ≤ _; omega), fun l hl => ?_⟩
  rw [flat_rep]
  exact cc _ _ _ (kn.new hl) (c l)

/-! ### tests -/
theorem WT.test (h : W te σ H0 fs fun x f1 => ∃ b, x = .bl b ∧ ΦT b f1) : WT (tTest te) σ H0 fs ΦT := fun H k _ c =>
  h H k _ fun _ _ H1 k1 ⟨b, e, q⟩ => ⟨b, e, c _ _ H1 k1 q⟩
theorem WT.b (h : W te σ H0 fs fun x f1 => ∃ b, x = .bl b ∧ ΦT b f1) : WT (tB te) σ H0 fs ΦT := fun H k _ c =>
  h H k _ fun _ _ H1 k1 ⟨b, e, q⟩ => ⟨b, e, c _ _ H1 k1 q⟩
theorem WT.not (h : WT t σ H0 fs fun b f1 => ΦT (!b) f1) : WT (tNot t) σ H0 fs ΦT := fun H k _ c => h H k _ fun _ _ H1 k1 q => c _ _ H1 k1 q
theorem WT.and (h : WT t σ H0 fs fun b f1 => (b = true → WT u σ H0 f1 ΦT) ∧ (b = false → ΦT false f1)) : WT (tAnd t u) σ H0 fs ΦT := fun H k _ c =>
  h H k _ fun b _ H1 k1 q => by
    cases b with
    | true => exact (q.1 rfl) H1 k1 _ c
    | false => exact c _ _ H1 k1 (q.2 rfl)
theorem WT.or (h : WT t σ H0 fs fun b f1 => (b = true → ΦT true f1) ∧ (b = false → WT u σ H0 f1 ΦT)) : WT (tOr t u) σ H0 fs ΦT := fun H k _ c =>
  h H k _ fun b _ H1 k1 q => by
    cases b with
    | true => exact c _ _ H1 k1 (q.1 rfl)
    | false => exact (q.2 rfl) H1 k1 _ c
theorem W.andV (h : W ta σ H0 fs fun x f1 => ∃ b, x = .bl b ∧ (b = true → W tb σ H0 f1 Φ) ∧ (b = false → Φ (.bl false) f1)) : W (tAndV ta tb) σ H0 fs Φ := fun H k _ c =>
  h H k _ fun _ _ H1 k1 ⟨b, e, q⟩ => ⟨b, e, by
    cases b with
    | true => exact (q.1 rfl) H1 k1 _ c
    | false => exact c _ _ H1 k1 (q.2 rfl)⟩
theorem W.orV (h : W ta σ H0 fs fun x f1 => ∃ b, x = .bl b ∧ (b = true → Φ (.bl true) f1) ∧ (b = false → W tb σ H0 f1 Φ)) : W (tOrV ta tb) σ H0 fs Φ := fun H k _ c =>
  h H k _ fun _ _ H1 k1 ⟨b, e, q⟩ => ⟨b, e, by
    cases b with
    | true => exact c _ _ H1 k1 (q.1 rfl)
    | false => exact (q.2 rfl) H1 k1 _ c⟩
theorem W.notV (h : W ta σ H0 fs fun x f1 => ∃ b, x = .bl b ∧ Φ (.bl (!b)) f1) : W (tNotV ta) σ H0 fs Φ := fun H k _ c =>
  h H k _ fun _ _ H1 k1 ⟨b, e, q⟩ => ⟨b, e, c _ _ H1 k1 q⟩
theorem W.chain (h : W ta σ H0 fs fun x f1 => W tb σ H0 f1 fun y f2 => RW r x y H0 f2 fun z f3 => ∃ b, z = .bl b ∧ (b = true → W tc σ H0 f3 fun w f4 => RW r' y w H0 f4 Φ) ∧ (b = false → Φ (.bl false) f3)) : W (tChain r r' ta tb tc) σ H0 fs Φ := fun H k Q c =>
  h H k _ fun _ _ H1 k1 h1 => h1 H1 k1 _ fun _ _ H2 k2 h2 => h2 H2 k2 _ fun _ _ H3 k3 ⟨b, e, q⟩ => ⟨b, e, by
    cases b with
    | true => exact (q.1 rfl) H3 k3 _ fun _ _ H4 k4 h4 => h4 H4 k4 Q c
    | false => exact c _ _ H3 k3 (q.2 rfl)⟩
end

/-! ### statements -/
section
variable {σ : St} {H0 : Hp} {fs : Fs} {te ta tb : TE} {t : TT} {D : Ends} {ts tu tw tz : TS} {i : Nat} {v : V} {K : PySem.W.Frag}
theorem S.seq (h : N (ts { D with nx := tz D }) σ H0 fs) : N (tSeq ts tz D) σ H0 fs := h
theorem S.next (h : N D.nx σ H0 fs) : N (tNext D) σ H0 fs := h
theorem S.asg (h : W te σ H0 fs fun v f1 => N D.nx (σ.set i (some v)) H0 f1) : N (tAsg te (gName i) D) σ H0 fs := fun H k => h H k _ fun _ _ H1 k1 q => q H1 k1
theorem S.ret (h : W te σ H0 fs fun v f1 => NR D.rt v H0 f1) : N (tRet te D) σ H0 fs := fun H k => h H k _ fun _ _ H1 k1 q => q H1 k1
theorem S.drop (h : W te σ H0 fs fun _ f1 => N D.nx σ H0 f1) : N (tDrop te D) σ H0 fs := fun H k => h H k _ fun _ _ H1 k1 q => q H1 k1
theorem S.if_ (h : WT t σ H0 fs fun b f1 => (b = true → N (ts D) σ H0 f1) ∧ (b = false → N (tu D) σ H0 f1)) : N (tIfS t ts tu D) σ H0 fs := fun H k => h H k _ fun b _ H1 k1 q => by
  cases b with
  | true => exact (q.1 rfl) H1 k1
  | false => exact (q.2 rfl) H1 k1
/-- if t: x = e, one way: x has w behind it -/
theorem S.ifset (w : V) (h : WT t σ H0 fs fun b f1 => f1 = fs ∧ (b = true → W te σ H0 fs fun v f2 => v = w ∧ f2 = fs) ∧ (b = false → σ.set i (some w) = σ)) (hn : N D.nx (σ.set i (some w)) H0 fs) :
    N (tIfS t (tAsg te (gName i)) tNext D) σ H0 fs := fun H k => h H k _ fun b _ H1 k1 ⟨ef, q1, q2⟩ => by
  subst ef
  cases b with
  | true => exact q1 rfl H1 k1 _ fun v f2 H2 k2 ⟨e, e2⟩ => by subst e e2; exact hn H2 k2
  | false =>
    have := hn H1 k1
    rw [q2 rfl] at this
    exact this
/-- xs.append(e) -/
theorem S.app (h : W ta σ H0 fs fun x f1 => ∃ l, x = .ref l ∧ (∃ ys, Rl K H0 f1 l ys) ∧ W te σ H0 f1 fun v f2 => ∃ (xs : List V) (j : Nat), f2[j]? = some (l, .lst xs) ∧ xs.length < 1000000 ∧ N D.nx σ H0 (f2.set j (l, .lst (xs ++ [v])))) :
    N (tDrop (tBM K "list" rAppend ta (tCons te tNil)) D) σ H0 fs := fun H k => h H k _ fun _ _ H1 k1 ⟨l, e, ⟨ys, hy⟩, q⟩ => by
  subst e
  refine ⟨.inl ⟨rfl, ys, hy H1 k1⟩, q H1 k1 _ fun v f2 H2 k2 ⟨xs, j, hj, hl, n⟩ => ⟨l, xs, v, rfl, rfl, k2.get (List.mem_of_getElem? hj), sz_lt hl, n _ (k2.put hj)⟩⟩
/-- xs[i] = e -/
theorem S.setL (h : W te σ H0 fs fun v f1 => W ta σ H0 f1 fun x f2 => W tb σ H0 f2 fun y f3 => ∃ (l : Addr) (z : Int) (xs : List V) (j : Nat), x = .ref l ∧ y = .int z ∧ f3[j]? = some (l, .lst xs) ∧ (0 ≤ z ∧ z < (xs.length : Int)) ∧ N D.nx σ H0 (f3.set j (l, .lst (xs.set z.toNat v)))) :
    N (tAsg te (gSub ta tb rSetL) D) σ H0 fs := fun H k => h H k _ fun _ _ H1 k1 q => q H1 k1 _ fun _ _ H2 k2 q => q H2 k2 _ fun _ _ H3 k3 ⟨l, z, xs, j, e1, e2, hj, hz, n⟩ => by
  subst e1 e2
  exact ⟨l, xs, z, z.toNat, rfl, rfl, k3.get (List.mem_of_getElem? hj), ixN_int hz.1 hz.2, n _ (k3.put hj)⟩
/-- a, b, .. = e -/
theorem S.asgT {n : Nat} {g : TGs} (h : W te σ H0 fs fun v f1 => ∃ a xs, v = .ref a ∧ Rt K H0 f1 a xs ∧ xs.length = n ∧ ∀ H, Kn H0 f1 H → g xs σ H D.nx) : N (tAsg te (gTup K n g) D) σ H0 fs := fun H k =>
  h H k _ fun _ _ H1 k1 ⟨a, xs, e, hr, hl, q⟩ => ⟨a, xs, e, hr H1 k1, hl, q H1 k1⟩
/-- loops; I: what holds ahead of the i-th turn of the slots and the owned objects -/
structure Lp (H0 : Hp) (I : Nat → St → Fs → Prop) (i : Nat) (σ : St) (H : Hp) : Prop where
  ex : ∃ fs, Kn H0 fs H ∧ I i σ fs
theorem Lp.nx {I : Nat → St → Fs → Prop} {i : Nat} (h : I i σ fs) : N (Lp H0 I i) σ H0 fs := fun _ k => ⟨fs, k, h⟩
theorem Lp.sub {I : Nat → St → Fs → Prop} {i : Nat} (f1 : Fs) (s : List.Sublist f1 fs) (h : I i σ f1) : N (Lp H0 I i) σ H0 fs := fun _ k => ⟨f1, k.sub s, h⟩
theorem S.forR {ta : TA} {j : Nat} {n : Int} (I : Nat → St → Fs → Prop)
    (h : WA ta σ H0 fs fun vs f1 => vs = [.int n] ∧ n ≤ 1000000 ∧ -1000000 ≤ n ∧ I 0 σ f1)
    (hs : ∀ (i : Nat) σ' f', (i : Int) < n → I i σ' f' → N (ts { D with nx := Lp H0 I (i + 1), ct := Lp H0 I (i + 1), bk := D.nx }) (σ'.set j (some (.int (i : Int)))) H0 f')
    (hd : ∀ σ' f', I n.toNat σ' f' → N D.nx σ' H0 f') : N (tFor (iRng1 ta) (gName j) ts D) σ H0 fs := fun H k =>
  h H k _ fun vs f1 H1 k1 ⟨e, hn, hm, h0⟩ => by
    refine ⟨n, e, by omega, by omega, for_range (lo := 0) (n := n.toNat) (Lp H0 I) ⟨f1, k1, h0⟩ (fun i σ' H' hi p => ?_) (fun σ' H' p => ?_)⟩
    · obtain ⟨f', k', p⟩ := p.ex
      have e0 : (0 : Int) + (i : Int) = (i : Int) := Int.zero_add _
      show ts _ (σ'.set j (some (.int ((0 : Int) + (i : Int))))) H'
      rw [e0]
      exact hs i σ' f' (by omega) p H' k'
    · obtain ⟨f', k', p⟩ := p.ex
      exact hd σ' f' p H' k'
theorem S.forR2 {ta : TA} {j : Nat} {lo n : Int} (I : Nat → St → Fs → Prop)
    (h : WA ta σ H0 fs fun vs f1 => vs = [.int lo, .int n] ∧ (n ≤ 1000000 ∧ -1000000 ≤ n ∧ lo ≤ 1000000 ∧ -1000000 ≤ lo) ∧ I 0 σ f1)
    (hs : ∀ (i : Nat) σ' f', lo + (i : Int) < n → I i σ' f' → N (ts { D with nx := Lp H0 I (i + 1), ct := Lp H0 I (i + 1), bk := D.nx }) (σ'.set j (some (.int (lo + (i : Int))))) H0 f')
    (hd : ∀ σ' f', I (n - lo).toNat σ' f' → N D.nx σ' H0 f') : N (tFor (iRng2 ta) (gName j) ts D) σ H0 fs := fun H k =>
  h H k _ fun vs f1 H1 k1 ⟨e, hn, h0⟩ => by
    refine ⟨lo, n, e, ⟨by omega, by omega, by omega, by omega⟩, for_range (lo := lo) (n := (n - lo).toNat) (Lp H0 I) ⟨f1, k1, h0⟩ (fun i σ' H' hi p => ?_) (fun σ' H' p => ?_)⟩
    · obtain ⟨f', k', p⟩ := p.ex
      exact hs i σ' f' (by omega) p H' k'
    · obtain ⟨f', k', p⟩ := p.ex
      exact hd σ' f' p H' k'
/-- over a list that the body leaves as it is -/
theorem S.forL {a : Addr} {xs : List V} {g : TG} (I : Nat → St → Fs → Prop)
    (h : W te σ H0 fs fun v f1 => v = .ref a ∧ Rl K H0 f1 a xs ∧ I 0 σ f1)
    (hl : ∀ i σ' f', I i σ' f' → Rl K H0 f' a xs)
    (hs : ∀ (i : Nat) x σ' f', xs[i]? = some x → I i σ' f' → ∀ H, Kn H0 f' H → g x σ' H fun σ2 H2 => ts { D with nx := Lp H0 I (i + 1), ct := Lp H0 I (i + 1), bk := D.nx } σ2 H2)
    (hd : ∀ σ' f', I xs.length σ' f' → N D.nx σ' H0 f') : N (tFor (iList K te) g ts D) σ H0 fs := fun H k =>
  h H k _ fun v f1 H1 k1 ⟨e, hr, h0⟩ => by
    refine ⟨a, e, ⟨xs, hr H1 k1⟩, for_list (K := K) (a := a) (xs := xs) (Lp H0 I) ⟨f1, k1, h0⟩ (fun i σ' H' _ p => ?_) (fun i x σ' H' hx p => ?_) (fun σ' H' p => ?_)⟩
    · obtain ⟨f', k', p⟩ := p.ex
      exact hl i σ' f' p H' k'
    · obtain ⟨f', k', p⟩ := p.ex
      exact hs i x σ' f' hx p H' k'
    · obtain ⟨f', k', p⟩ := p.ex
      exact hd σ' f' p H' k'
/-- .. its items ints, its target a name -/
theorem S.forZ {a : Addr} {ns : List Int} {j : Nat} (I : Nat → St → Fs → Prop)
    (h : W te σ H0 fs fun v f1 => v = .ref a ∧ Rl K H0 f1 a (zV ns) ∧ I 0 σ f1)
    (hl : ∀ i σ' f', I i σ' f' → Rl K H0 f' a (zV ns))
    (hs : ∀ (i : Nat) σ' f', i < ns.length → I i σ' f' → N (ts { D with nx := Lp H0 I (i + 1), ct := Lp H0 I (i + 1), bk := D.nx }) (σ'.set j (some (.int (ns.getD i 0)))) H0 f')
    (hd : ∀ σ' f', I ns.length σ' f' → N D.nx σ' H0 f') : N (tFor (iList K te) (gName j) ts D) σ H0 fs := by
  refine S.forL (xs := zV ns) I h hl (fun i x σ' f' hx p H k => ?_) (fun σ' f' p => hd σ' f' (by rw [zV_length] at p; exact p))
  obtain ⟨hi, e⟩ := List.getElem?_eq_some_iff.mp hx
  rw [zV_length] at hi
  have e2 : x = .int (ns.getD i 0) := by
    have := zV_get (ns := ns) (i := i) (x := ns[i]) (List.getElem?_eq_getElem hi)
    rw [hx] at this
    rw [Option.some.inj this, List.getD_eq_getElem?_getD, List.getElem?_eq_getElem hi]; rfl
  subst e2
  exact hs i σ' f' hi p H k
/-- reversed(a list of ints) -/
theorem S.forRev {ta : TA} {a : Addr} {ns : List Int} {j : Nat} (I : Nat → St → Fs → Prop)
    (h : WA ta σ H0 fs fun vs f1 => vs = [.ref a] ∧ Rl K H0 f1 a (zV ns) ∧ I 0 σ f1)
    (hl : ∀ i σ' f', I i σ' f' → Rl K H0 f' a (zV ns))
    (hs : ∀ (i : Nat) σ' f', i < ns.length → I i σ' f' → N (ts { D with nx := Lp H0 I (i + 1), ct := Lp H0 I (i + 1), bk := D.nx }) (σ'.set j (some (.int (ns.reverse.getD i 0)))) H0 f')
    (hd : ∀ σ' f', I ns.length σ' f' → N D.nx σ' H0 f') : N (tFor (iRev K ta) (gName j) ts D) σ H0 fs := fun H k =>
  h H k _ fun vs f1 H1 k1 ⟨e, hr, h0⟩ => by
    refine ⟨a, zV ns, e, hr H1 k1, RT.for_Itv (K := K) (a := a) (xs := zV ns) (Lp H0 I) ⟨f1, k1, h0⟩ (fun i σ' H' p => ?_) (fun i x σ' H' hi hx p => ?_) (fun σ' H' p => ?_)⟩
    · obtain ⟨f', k', p⟩ := p.ex
      exact hl i σ' f' p H' k'
    · obtain ⟨f', k', p⟩ := p.ex
      rw [zV_length] at hi hx
      have hb : ns.length - 1 - i < ns.length := by omega
      have e2 : x = .int (ns.reverse.getD i 0) := by
        have := zV_get (ns := ns) (i := ns.length - 1 - i) (x := ns[ns.length - 1 - i]) (List.getElem?_eq_getElem hb)
        rw [hx] at this
        rw [Option.some.inj this, List.getD_eq_getElem?_getD, List.getElem?_reverse hi, List.getElem?_eq_getElem hb]; rfl
      subst e2
      exact hs i σ' f' hi p H' k'
    · obtain ⟨f', k', p⟩ := p.ex
      rw [zV_length] at p
      exact hd σ' f' p H' k'
/-- range(n), n written: turn by turn -/
structure Un (H0 : Hp) (I : St → Fs → Prop) (σ : St) (H : Hp) : Prop where
  ex : ∃ fs, Kn H0 fs H ∧ I σ fs
theorem Un.nx {I : St → Fs → Prop} (h : I σ fs) : N (Un H0 I) σ H0 fs := fun _ k => ⟨fs, k, h⟩
def UU (H0 : Hp) (ts : TS) (D : Ends) (j : Nat) : Nat → Nat → St → Fs → Prop
  | 0, _, σ, f => N D.nx σ H0 f
  | m + 1, i, σ, f => N (ts { D with nx := Un H0 (UU H0 ts D j m (i + 1)), ct := Un H0 (UU H0 ts D j m (i + 1)), bk := D.nx }) (σ.set j (some (.int (i : Int)))) H0 f
theorem UU.zero {j i : Nat} (h : N D.nx σ H0 fs) : UU H0 ts D j 0 i σ fs := h
theorem UU.succ {j i m : Nat} (h : N (ts { D with nx := Un H0 (UU H0 ts D j m (i + 1)), ct := Un H0 (UU H0 ts D j m (i + 1)), bk := D.nx }) (σ.set j (some (.int (i : Int)))) H0 fs) : UU H0 ts D j (m + 1) i σ fs := h
theorem S.forU {ta : TA} {j : Nat} (n : Nat) (h : WA ta σ H0 fs fun vs f1 => vs = [.int (n : Int)] ∧ n ≤ 1000000 ∧ UU H0 ts D j n 0 σ f1) : N (tFor (iRng1 ta) (gName j) ts D) σ H0 fs := fun H k =>
  h H k _ fun vs f1 H1 k1 ⟨e, hn, h0⟩ => by
    refine ⟨(n : Int), e, by omega, by omega, for_range (lo := 0) (n := ((n : Int)).toNat) (fun i σ H => ∃ m f, m + i = n ∧ Kn H0 f H ∧ UU H0 ts D j m i σ f) ⟨n, f1, by omega, k1, h0⟩ (fun i σ' H' hi p => ?_) (fun σ' H' p => ?_)⟩
    · obtain ⟨m, f, hm, k', p⟩ := p
      obtain ⟨m, rfl⟩ : ∃ m', m = m' + 1 := ⟨m - 1, by omega⟩
      have e0 : (0 : Int) + (i : Int) = (i : Int) := Int.zero_add _
      show ts _ (σ'.set j (some (.int ((0 : Int) + (i : Int))))) H'
      rw [e0]
      have q := p H' k'
      have ee : Un H0 (UU H0 ts D j m (i + 1)) = fun σ H => ∃ m f, m + (i + 1) = n ∧ Kn H0 f H ∧ UU H0 ts D j m (i + 1) σ f := by
        funext σ2 H2
        refine propext ⟨fun ⟨f, k2, u⟩ => ⟨m, f, by omega, k2, u⟩, fun ⟨m', f, hm', k2, u⟩ => ⟨f, k2, ?_⟩⟩
        have : m' = m := by omega
        subst this
        exact u
      rw [ee] at q
      exact q
    · obtain ⟨m, f, hm, k', p⟩ := p
      have : m = 0 := by omega
      subst this
      exact p H' k'
/-- a statement, then the rest, with a word between them -/
def tCut (t u : TS) : TS := fun D σ H => ∃ Mid : St → Hp → Prop, t { D with nx := Mid } σ H ∧ ∀ σ' H', Mid σ' H' → u D σ' H'
theorem pss_cut {X : Cx} {st : Stmt} {rest : List Stmt} {t u : TS} (h1 : PS X st t) (h2 : PSs X rest u) : PSs X (st :: rest) (tCut t u) := by
  refine ⟨fun pins s σ H D I h => ?_⟩
  obtain ⟨Mid, hm, hu⟩ := h
  refine wpAny_execs_cons (thn (h1.run pins s σ H { D with nx := Mid } I hm) fun f s1 q => ?_)
  cases f with
  | next =>
    obtain ⟨σ', H', I', q⟩ := q
    exact h2.run pins s1 σ' H' D I' (hu σ' H' q)
  | ret v => exact q
  | brk => exact q
  | cont => exact q
theorem S.cut (I : St → Fs → Prop) (h : N (ts { D with nx := Un H0 I }) σ H0 fs) (k : ∀ σ' f', I σ' f' → N (tz D) σ' H0 f') : N (tCut ts tz D) σ H0 fs := fun H kn =>
  ⟨Un H0 I, h H kn, fun σ' H' ⟨⟨f', k', i⟩⟩ => k σ' f' i H' k'⟩
theorem Un.sub {I : St → Fs → Prop} (f1 : Fs) (s : List.Sublist f1 fs) (h : I σ f1) : N (Un H0 I) σ H0 fs := fun _ k => ⟨f1, k.sub s, h⟩
/-- while; I: what holds, by a number that falls -/
structure Wl (H0 : Hp) (I : Nat → St → Fs → Prop) (m : Nat) (σ : St) (H : Hp) : Prop where
  ex : ∃ m', m' < m ∧ ∃ fs, Kn H0 fs H ∧ I m' σ fs
theorem Wl.nx {I : Nat → St → Fs → Prop} {m m' : Nat} (hm : m' < m) (h : I m' σ fs) : N (Wl H0 I m) σ H0 fs := fun _ k => ⟨m', hm, fs, k, h⟩
theorem Wl.sub {I : Nat → St → Fs → Prop} {m m' : Nat} (f1 : Fs) (s : List.Sublist f1 fs) (hm : m' < m) (h : I m' σ f1) : N (Wl H0 I m) σ H0 fs := fun _ k => ⟨m', hm, f1, k.sub s, h⟩
theorem S.while_ (I : Nat → St → Fs → Prop) (m0 : Nat) (h0 : I m0 σ fs)
    (hs : ∀ m σ' f', I m σ' f' → WT t σ' H0 f' fun b f1 => (b = true → N (ts { D with nx := Wl H0 I m, ct := Wl H0 I m, bk := D.nx }) σ' H0 f1) ∧ (b = false → N D.nx σ' H0 f1)) :
    N (tWhile t ts D) σ H0 fs := fun H k => by
  refine ⟨fun m σ H => ∃ fs, Kn H0 fs H ∧ I m σ fs, ⟨m0, fs, k, h0⟩, fun m σ' H' ⟨f', k', p⟩ => ?_⟩
  refine hs m σ' f' p H' k' _ fun b f1 H1 k1 q => ?_
  cases b with
  | true =>
    show ∃ N' : St → Hp → Prop, _
    exact ⟨Wl H0 I m, fun σ2 H2 w => w.ex, (q.1 rfl) H1 k1⟩
  | false => exact (q.2 rfl) H1 k1
end

/-! ### comprehensions whose items are all kept -/
section
variable {σ : St} {H0 : Hp} {fs : Fs} {Φ : CV} {te tl : TE} {K : PySem.W.Frag}
/-- over range(n): the i-th item is f i; the item's reading leaves the owned objects as they are (or drops what it made) -/
theorem W.lcR {ta : TA} {j : Nat} {vs : List Nat} {n : Int} (f : Nat → V)
    (h : WA ta σ H0 fs fun us f1 => us = [.int n] ∧ n ≤ 100000 ∧ -100000 ≤ n ∧
      (∀ x, wipe ((wipe σ vs).set j (some x)) vs = wipe σ vs) ∧
      (∀ (i : Nat) (D : Addr) (acc : List V), (i : Int) < n → W te ((wipe σ vs).set j (some (.int (i : Int)))) H0 ((D, .lst acc) :: f1) fun v f2 => v = f i ∧ List.Sublist ((D, .lst acc) :: f1) f2) ∧
      ∀ D, Φ (.ref D) ((D, .lst ((List.range n.toNat).map f)) :: f1)) : W (tLc (iRng1 ta) (gName j) tYes te vs) σ H0 fs Φ := fun H k Q c =>
  h H k _ fun us f1 H1 k1 ⟨e, hn, hm, hw, hs, hd⟩ => by
    refine ⟨n, e, by omega, by omega, fun D hD => ?_⟩
    refine lc_range (lo := 0) (n := n.toNat) (fun i H' => Kn H0 ((D, .lst ((List.range i).map f)) :: f1) H') (k1.new hD) (fun i H' hi p => ?_) (fun H' p => c _ _ _ p (hd D))
    have e0 : (0 : Int) + (i : Int) = (i : Int) := Int.zero_add _
    refine ⟨hw _, ?_⟩
    show te ((wipe σ vs).set j (some (.int ((0 : Int) + (i : Int))))) H' _
    rw [e0]
    refine hs i D _ (by omega) H' p _ fun v f2 H2 k2 ⟨ev, sb⟩ => ?_
    subst ev
    have k3 := k2.sub sb
    refine ⟨_, k3.get (.head _), sz_lt (by simp; omega), ?_⟩
    have k4 := k3.put (i := 0) (o' := .lst ((List.range i).map f ++ [f i])) rfl
    show Kn H0 ((D, .lst ((List.range (i + 1)).map f)) :: f1) _
    rw [List.range_succ, List.map_append]
    exact k4
/-- over a list of ints -/
theorem W.lcZ {ns : List Int} {j : Nat} {vs : List Nat} (f : Int → V)
    (h : W tl σ H0 fs fun v f1 => ∃ a, v = .ref a ∧ Rl K H0 f1 a (zV ns) ∧ ns.length ≤ 100000 ∧
      (∀ x, wipe ((wipe σ vs).set j (some x)) vs = wipe σ vs) ∧
      (∀ (x : Int) (D : Addr) (acc : List V), x ∈ ns → W te ((wipe σ vs).set j (some (.int x))) H0 ((D, .lst acc) :: f1) fun v f2 => v = f x ∧ List.Sublist ((D, .lst acc) :: f1) f2) ∧
      ∀ D, Φ (.ref D) ((D, .lst (ns.map f)) :: f1)) : W (tLc (iList K tl) (gName j) tYes te vs) σ H0 fs Φ := fun H k Q c =>
  h H k _ fun v f1 H1 k1 ⟨a, e, hr, hn, hw, hs, hd⟩ => by
    refine ⟨a, e, ⟨_, hr H1 k1⟩, fun D hD => ?_⟩
    refine lc_list (K := K) (a := a) (xs := zV ns) (fun i H' => Kn H0 ((D, .lst ((ns.take i).map f)) :: f1) H') (k1.new hD) (fun i H' _ p => hr H' p.drop) (fun i x H' hi p => ?_) (fun H' p => ?_)
    · obtain ⟨hl, e1⟩ := List.getElem?_eq_some_iff.mp hi
      rw [zV_length] at hl
      have e2 : x = .int ns[i] := by
        have := zV_get (ns := ns) (i := i) (x := ns[i]) (List.getElem?_eq_getElem hl)
        rw [hi] at this
        exact Option.some.inj this
      subst e2
      refine ⟨hw _, ?_⟩
      refine hs ns[i] D _ (List.getElem_mem hl) H' p _ fun v f2 H2 k2 ⟨ev, sb⟩ => ?_
      subst ev
      have k3 := k2.sub sb
      refine ⟨_, k3.get (.head _), sz_lt (by simp; omega), ?_⟩
      have k4 := k3.put (i := 0) (o' := .lst ((ns.take i).map f ++ [f ns[i]])) rfl
      show Kn H0 ((D, .lst ((ns.take (i + 1)).map f)) :: f1) _
      rw [List.take_add_one, List.getElem?_eq_getElem hl, List.map_append]
      exact k4
    · rw [zV_length, List.take_length] at p
      exact c _ _ _ p (hd D)
end
end Pa

namespace Pa
open PySem PySem.Spec PyProof.Rows L2

/-! ### products, quotients -/
section
variable {X : Cx}
theorem op_mulG : OpR X (binaryOp .Mult) (rI IntMulOk fun i j => .int (i * j)) := opI fun _ _ _ _ _ _ _ hc q => mul_int q hc
/-- // by a divisor other than nought -/
def CDivG (i j : Int) : Prop := j ≠ 0 ∧ Builtin.divisionGoesByPylong i j = false
theorem op_fdivG : OpR X (binaryOp .FloorDiv) (rI CDivG fun i j => .int (i.fdiv j)) := opI fun _ _ _ _ _ _ _ hc q => floordiv_int hc.1 q (.inl hc.2)
theorem op_addS : OpR X (binaryOp .Add) (fun x y H Q => ∃ i j, x = .str i ∧ y = .str j ∧ i.length + j.length ≤ sizeLine ∧ Q (.str (i ++ j)) H) := op_add_str
end
theorem CDivG.small {i j : Int} (h : j ≠ 0) (h2 : j.natAbs < 1073741824) : CDivG i j := ⟨h, PyProof.noPylong_small h2⟩
theorem CDivG.bits {i j : Int} {b : Nat} (h : j ≠ 0) (h2 : j.natAbs < 2 ^ b) (hb : b ≤ 9000) : CDivG i j :=
  ⟨h, PyProof.noPylong_of_log2 ((Nat.log2_lt (fun z => h (Int.natAbs_eq_zero.mp z))).mpr (Nat.lt_of_lt_of_le h2 (Nat.pow_le_pow_right (by decide) hb)))⟩
theorem mulL {i j : Int} (h1 : -(2 ^ 64) < i) (h2 : i < 2 ^ 64) : IntMulOk i j := .of_left (intBits_le_64 h1 h2)
theorem mulR {i j : Int} (h1 : -(2 ^ 64) < j) (h2 : j < 2 ^ 64) : IntMulOk i j := .of_right (intBits_le_64 h1 h2)
theorem bits_of {i : Int} {a : Nat} (h : i.natAbs < 2 ^ a) : Builtin.Int.intBits i ≤ a := by
  unfold Builtin.Int.intBits
  split
  · exact Nat.zero_le _
  · by_cases h0 : i.natAbs = 0
    · rename_i hi
      exact absurd (by simpa using (Int.natAbs_eq_zero.mp h0)) hi
    · have := (Nat.log2_lt h0).mpr h
      omega
theorem mulB {i j : Int} {a b : Nat} (ha : i.natAbs < 2 ^ a) (hb : j.natAbs < 2 ^ b) (h : a + b ≤ 134217728) : IntMulOk i j := by
  have h1 := bits_of ha
  have h2 := bits_of hb
  have e : bitsLine = 134217728 := by decide
  unfold IntMulOk
  intro z
  rw [Bool.and_eq_true] at z
  have z2 := z.2
  unfold Builtin.Int.intTooBig at z2
  have z3 := of_decide_eq_true z2
  rw [e] at z3
  omega

/-! ### comprehensions of ints -/
section
variable {σ : St} {H0 : Hp} {fs : Fs} {Φ : CV} {te tl : TE} {K : PySem.W.Frag}
theorem map_zV {α : Type} (l : List α) (g : α → Int) : l.map (fun i => V.int (g i)) = zV (l.map g) := by
  unfold zV; rw [List.map_map]; rfl
theorem W.lcRz {ta : TA} {j : Nat} {vs : List Nat} {n : Int} (g : Nat → Int)
    (h : WA ta σ H0 fs fun us f1 => us = [.int n] ∧ n ≤ 100000 ∧ -100000 ≤ n ∧
      (∀ x, wipe ((wipe σ vs).set j (some x)) vs = wipe σ vs) ∧
      (∀ (i : Nat) (D : Addr) (acc : List V), (i : Int) < n → W te ((wipe σ vs).set j (some (.int (i : Int)))) H0 ((D, .lst acc) :: f1) fun v f2 => v = .int (g i) ∧ List.Sublist ((D, .lst acc) :: f1) f2) ∧
      ∀ D, Φ (.ref D) ((D, .lst (zV ((List.range n.toNat).map g))) :: f1)) : W (tLc (iRng1 ta) (gName j) tYes te vs) σ H0 fs Φ := by
  refine W.lcR (n := n) (fun i => .int (g i)) ?_
  rw [map_zV]
  exact h
theorem W.lcZz {ns : List Int} {j : Nat} {vs : List Nat} (g : Int → Int)
    (h : W tl σ H0 fs fun v f1 => ∃ a, v = .ref a ∧ Rl K H0 f1 a (zV ns) ∧ ns.length ≤ 100000 ∧
      (∀ x, wipe ((wipe σ vs).set j (some x)) vs = wipe σ vs) ∧
      (∀ (x : Int) (D : Addr) (acc : List V), x ∈ ns → W te ((wipe σ vs).set j (some (.int x))) H0 ((D, .lst acc) :: f1) fun v f2 => v = .int (g x) ∧ List.Sublist ((D, .lst acc) :: f1) f2) ∧
      ∀ D, Φ (.ref D) ((D, .lst (zV (ns.map g))) :: f1)) : W (tLc (iList K tl) (gName j) tYes te vs) σ H0 fs Φ := by
  refine W.lcZ (ns := ns) (fun i => .int (g i)) ?_
  rw [map_zV]
  exact h
end

/-! ### isinstance -/
section
variable {H0 : Hp} {fs : Fs} {Φ : CV} {K : PySem.W.Frag}
theorem RC.isiII {i : Int} (q : Φ (.bl true) fs) : RC (rIsi K) [.int i, .ty "int"] H0 fs Φ := RC.isi (fun _ _ => .base (.int i)) (kit_ty (by decide +kernel)) q
theorem RC.isiIB {i : Int} (q : Φ (.bl false) fs) : RC (rIsi K) [.int i, .ty "bool"] H0 fs Φ := RC.isi (fun _ _ => .base (.int i)) (kit_ty (by decide +kernel)) q
theorem RC.isiBB {b : Bool} (q : Φ (.bl true) fs) : RC (rIsi K) [.bl b, .ty "bool"] H0 fs Φ := RC.isi (fun _ _ => .base (.bl b)) (kit_ty (by decide +kernel)) q
theorem RC.isiSI {x : Str} (q : Φ (.bl false) fs) : RC (rIsi K) [.str x, .ty "int"] H0 fs Φ := RC.isi (fun _ _ => .base (.str x)) (kit_ty (by decide +kernel)) q
theorem RC.isiSB {x : Str} (q : Φ (.bl false) fs) : RC (rIsi K) [.str x, .ty "bool"] H0 fs Φ := RC.isi (fun _ _ => .base (.str x)) (kit_ty (by decide +kernel)) q
theorem RC.isiSS {x : Str} (q : Φ (.bl true) fs) : RC (rIsi K) [.str x, .ty "str"] H0 fs Φ := RC.isi (fun _ _ => .base (.str x)) (kit_ty (by decide +kernel)) q
theorem RC.isiNI (q : Φ (.bl false) fs) : RC (rIsi K) [.non, .ty "int"] H0 fs Φ := RC.isi (fun _ _ => .base .non) (kit_ty (by decide +kernel)) q
theorem RC.isiNB (q : Φ (.bl false) fs) : RC (rIsi K) [.non, .ty "bool"] H0 fs Φ := RC.isi (fun _ _ => .base .non) (kit_ty (by decide +kernel)) q
theorem RC.isiLL {p : Addr} {xs : List V} (h : Rx H0 fs p (.lst xs)) (q : Φ (.bl true) fs) : RC (rIsi K) [.ref p, .ty "list"] H0 fs Φ := RC.isi (fun H k => .base (.lst (h H k))) (kit_ty (by decide +kernel)) q
theorem RC.isiTT {p : Addr} {xs : List V} (h : Rx H0 fs p (.tup xs)) (q : Φ (.bl true) fs) : RC (rIsi K) [.ref p, .ty "tuple"] H0 fs Φ := RC.isi (fun H k => .base (.tup (h H k))) (kit_ty (by decide +kernel)) q
theorem RC.isiLI {p : Addr} {xs : List V} (h : Rx H0 fs p (.lst xs)) (q : Φ (.bl false) fs) : RC (rIsi K) [.ref p, .ty "int"] H0 fs Φ := RC.isi (fun H k => .base (.lst (h H k))) (kit_ty (by decide +kernel)) q
theorem RC.isiLB {p : Addr} {xs : List V} (h : Rx H0 fs p (.lst xs)) (q : Φ (.bl false) fs) : RC (rIsi K) [.ref p, .ty "bool"] H0 fs Φ := RC.isi (fun H k => .base (.lst (h H k))) (kit_ty (by decide +kernel)) q
theorem RC.isiTI {p : Addr} {xs : List V} (h : Rx H0 fs p (.tup xs)) (q : Φ (.bl false) fs) : RC (rIsi K) [.ref p, .ty "int"] H0 fs Φ := RC.isi (fun H k => .base (.tup (h H k))) (kit_ty (by decide +kernel)) q
theorem RC.isiTB {p : Addr} {xs : List V} (h : Rx H0 fs p (.tup xs)) (q : Φ (.bl false) fs) : RC (rIsi K) [.ref p, .ty "bool"] H0 fs Φ := RC.isi (fun H k => .base (.tup (h H k))) (kit_ty (by decide +kernel)) q
end

theorem S.dropS {σ : St} {H0 : Hp} {fs : Fs} {tr : TA} {D : Ends} {sp : Sp} {E : St → XK} (h : W (tCallS sp E tr) σ H0 fs fun _ f1 => N D.nx σ H0 f1) : N (tDrop (tCallS sp E tr) D) σ H0 fs := S.drop h
/-! ### the ends -/
theorem N.sub {e : St → Hp → Prop} {σ : St} {H0 : Hp} {fs : Fs} (f0 : Fs) (s : List.Sublist f0 fs) (h : N e σ H0 f0) : N e σ H0 fs := fun H k => h H (k.sub s)
theorem N.of {e : St → Hp → Prop} {σ : St} {H0 : Hp} {fs : Fs} (h : N e σ H0 fs) : ∀ H, Kn H0 fs H → e σ H := h
theorem N.go {t : TS} {D : Ends} {σ : St} {H : Hp} (h : N (t D) σ H []) : t D σ H := h H (Same.refl H)
theorem NR.sub {Q : VK} {v : V} {H : Hp} {f1 f2 : Fs} (h : NR Q v H f1) (s : List.Sublist f1 f2) : NR Q v H f2 := fun H' k => h H' (k.sub s)
theorem NR.k {Q : VK} {v : V} {H : Hp} {f1 : Fs} (h : NR Q v H f1) {H' : Hp} (k : Kn H f1 H') : Q v H' := h H' k
end Pa

namespace Pa

/-! ### rows without noughts at their end -/
def trim (xs : List Int) : List Int := (xs.reverse.dropWhile (· == 0)).reverse
theorem trim_nil : trim [] = [] := rfl
theorem trim_zero (xs : List Int) : trim (xs ++ [0]) = trim xs := by
  unfold trim
  rw [List.reverse_append]
  rfl
theorem trim_last (xs : List Int) {x : Int} (h : x ≠ 0) : trim (xs ++ [x]) = xs ++ [x] := by
  unfold trim
  rw [List.reverse_append]
  show (List.dropWhile (· == 0) (x :: xs.reverse)).reverse = _
  rw [List.dropWhile_cons_of_neg (by simpa using h), List.reverse_cons, List.reverse_reverse]
/-- its last number is not nought -/
def Tr (xs : List Int) : Prop := trim xs = xs
theorem snoc_cases (xs : List Int) : xs = [] ∨ ∃ ys y, xs = ys ++ [y] := by
  cases h : xs.reverse with
  | nil => left; simpa using h
  | cons y ys => right; exact ⟨ys.reverse, y, by rw [← List.reverse_reverse xs, h, List.reverse_cons]⟩
theorem trim_cases (xs : List Int) : ∃ k, xs = trim xs ++ List.replicate k 0 ∧ (trim xs = [] ∨ ∃ ys y, trim xs = ys ++ [y] ∧ y ≠ 0) := by
  generalize hn : xs.length = n
  induction n generalizing xs with
  | zero =>
    have : xs = [] := List.length_eq_zero_iff.mp hn
    subst this
    exact ⟨0, rfl, .inl rfl⟩
  | succ n ih =>
    rcases snoc_cases xs with rfl | ⟨ys, y, rfl⟩
    · simp at hn
    · by_cases hy : y = 0
      · subst hy
        obtain ⟨k, e, c⟩ := ih ys (by simpa using hn)
        rw [trim_zero]
        refine ⟨k + 1, ?_, c⟩
        rw [List.replicate_succ', ← List.append_assoc, ← e]
      · refine ⟨0, ?_, .inr ⟨ys, y, trim_last ys hy, hy⟩⟩
        rw [trim_last ys hy]; simp
theorem tr_trim (xs : List Int) : Tr (trim xs) := by
  obtain ⟨k, e, c | ⟨ys, y, c, hy⟩⟩ := trim_cases xs
  · unfold Tr; rw [c]; rfl
  · unfold Tr; rw [c, trim_last ys hy]
theorem trim_length_le (xs : List Int) : (trim xs).length ≤ xs.length := by
  obtain ⟨k, e, _⟩ := trim_cases xs
  have := congrArg List.length e
  rw [List.length_append] at this
  omega
theorem mem_trim {xs : List Int} {x : Int} (h : x ∈ trim xs) : x ∈ xs := by
  obtain ⟨k, e, _⟩ := trim_cases xs
  rw [e]; exact List.mem_append_left _ h
theorem tr_nil : Tr [] := rfl
theorem tr_last {xs : List Int} (h : Tr xs) (hne : xs ≠ []) : xs.getLast hne ≠ 0 := by
  rcases snoc_cases xs with rfl | ⟨ys, y, rfl⟩
  · exact absurd rfl hne
  · rw [show (ys ++ [y]).getLast hne = y by simp]
    intro hy
    subst hy
    unfold Tr at h
    rw [trim_zero] at h
    have := congrArg List.length h
    have h2 := trim_length_le ys
    simp at this
    omega
theorem tr_of_last {ys : List Int} {y : Int} (h : y ≠ 0) : Tr (ys ++ [y]) := trim_last ys h
theorem take_succ_getD {xs : List Int} {n : Nat} (h : n < xs.length) : xs.take (n + 1) = xs.take n ++ [xs.getD n 0] := by
  rw [List.take_add_one, List.getElem?_eq_getElem h, List.getD_eq_getElem?_getD, List.getElem?_eq_getElem h]; rfl

theorem trim_rep (xs : List Int) : ∀ k : Nat, trim (xs ++ List.replicate k 0) = trim xs
  | 0 => by simp
  | k + 1 => by rw [List.replicate_succ', ← List.append_assoc, trim_zero, trim_rep xs k]

/-! ### bounds -/
def Bd (a : Nat) (x : Int) : Prop := x.natAbs < 2 ^ a
def BdL (a : Nat) (xs : List Int) : Prop := ∀ x ∈ xs, x.natAbs < 2 ^ a
theorem Bd.mono {a b : Nat} {x : Int} (h : Bd a x) (hab : a ≤ b) : Bd b x := Nat.lt_of_lt_of_le h (Nat.pow_le_pow_right (by decide) hab)
theorem BdL.mono {a b : Nat} {xs : List Int} (h : BdL a xs) (hab : a ≤ b) : BdL b xs := fun x hx => Bd.mono (h x hx) hab
theorem Bd.mul {a b : Nat} {x y : Int} (hx : Bd a x) (hy : Bd b y) : Bd (a + b) (x * y) := by
  unfold Bd at *
  rw [Int.natAbs_mul, Nat.pow_add]
  exact Nat.mul_lt_mul'' hx hy
theorem Bd.add {a : Nat} {x y : Int} (hx : Bd a x) (hy : Bd a y) : Bd (a + 1) (x + y) := by
  unfold Bd at *
  have := Int.natAbs_add_le x y
  rw [Nat.pow_succ]; omega
theorem Bd.neg {a : Nat} {x : Int} (hx : Bd a x) : Bd a (-x) := by
  unfold Bd at *; rw [Int.natAbs_neg]; exact hx
theorem Bd.sub {a : Nat} {x y : Int} (hx : Bd a x) (hy : Bd a y) : Bd (a + 1) (x - y) := by
  rw [Int.sub_eq_add_neg]; exact hx.add hy.neg
theorem Bd.zero {a : Nat} : Bd a 0 := by
  unfold Bd; exact Nat.two_pow_pos a
theorem BdL.trim {a : Nat} {xs : List Int} (h : BdL a xs) : BdL a (trim xs) := fun x hx => h x (mem_trim hx)
theorem BdL.at {a : Nat} {xs : List Int} (h : BdL a xs) (i : Nat) : Bd a (xs.getD i 0) := by
  rw [List.getD_eq_getElem?_getD]
  cases e : xs[i]? with
  | none => exact Bd.zero
  | some x => exact h x (List.mem_of_getElem? e)
theorem BdL.gat {a : Nat} {xs : List Int} (h : BdL a xs) (i : Int) : Bd a (gat xs i) := h.at i.toNat
theorem BdL.nil {a : Nat} : BdL a [] := fun _ h => nomatch h
theorem Bd.of_abs {a : Nat} {x : Int} {n : Nat} (h : x.natAbs ≤ n) (hn : n < 2 ^ a) : Bd a x := Nat.lt_of_le_of_lt h hn

/-! ### sums -/
def plus (xs ys : List Int) : List Int := trim ((List.range (max (xs.length : Int) (ys.length : Int)).toNat).map fun (k : Nat) => gat xs (k : Int) + gat ys (k : Int))
def minus (xs ys : List Int) : List Int := trim ((List.range (max (xs.length : Int) (ys.length : Int)).toNat).map fun (k : Nat) => gat xs (k : Int) - gat ys (k : Int))
def scaled (xs : List Int) (m : Int) : List Int := trim (xs.map fun x => m * x)
theorem plus_len (xs ys : List Int) : (plus xs ys).length ≤ max xs.length ys.length := by
  unfold plus
  refine Nat.le_trans (trim_length_le _) ?_
  rw [List.length_map, List.length_range]; omega
theorem minus_len (xs ys : List Int) : (minus xs ys).length ≤ max xs.length ys.length := by
  unfold minus
  refine Nat.le_trans (trim_length_le _) ?_
  rw [List.length_map, List.length_range]; omega
theorem scaled_len (xs : List Int) (m : Int) : (scaled xs m).length ≤ xs.length := by
  unfold scaled
  refine Nat.le_trans (trim_length_le _) ?_
  rw [List.length_map]; omega
theorem plus_bd {a : Nat} {xs ys : List Int} (hx : BdL a xs) (hy : BdL a ys) : BdL (a + 1) (plus xs ys) := by
  refine BdL.trim fun z hz => ?_
  obtain ⟨k, _, rfl⟩ := List.mem_map.mp hz
  exact (hx.gat _).add (hy.gat _)
theorem minus_bd {a : Nat} {xs ys : List Int} (hx : BdL a xs) (hy : BdL a ys) : BdL (a + 1) (minus xs ys) := by
  refine BdL.trim fun z hz => ?_
  obtain ⟨k, _, rfl⟩ := List.mem_map.mp hz
  exact (hx.gat _).sub (hy.gat _)
theorem scaled_bd {a b : Nat} {xs : List Int} {m : Int} (hx : BdL a xs) (hm : Bd b m) : BdL (b + a) (scaled xs m) := by
  refine BdL.trim fun z hz => ?_
  obtain ⟨k, hk, rfl⟩ := List.mem_map.mp hz
  exact hm.mul (hx k hk)

/-! ### the value -/
def pval : List Int → Int → Int
  | [], _ => 0
  | a :: r, x => a + x * pval r x
theorem pval_append (xs ys : List Int) (x : Int) : pval (xs ++ ys) x = pval xs x + x ^ xs.length * pval ys x := by
  induction xs with
  | nil => simp [pval]
  | cons a r ih =>
    simp only [List.cons_append, pval, ih, List.length_cons, Int.pow_succ]
    rw [Int.mul_add, Int.add_assoc, ← Int.mul_assoc, Int.mul_comm x (x ^ r.length)]
theorem pval_take_succ {ns : List Int} {i : Nat} (h : i < ns.length) (x : Int) : pval (ns.take (i + 1)) x = pval (ns.take i) x + ns.getD i 0 * x ^ i := by
  rw [take_succ_getD h, pval_append, List.length_take, Nat.min_eq_left (Nat.le_of_lt h)]
  simp only [pval, Int.mul_zero, Int.add_zero]
  rw [Int.mul_comm (x ^ i)]
theorem drop_pred_getD {ns : List Int} {i : Nat} (h : i < ns.length) : ns.drop (ns.length - (i + 1)) = ns.reverse.getD i 0 :: ns.drop (ns.length - i) := by
  have hb : ns.length - 1 - i < ns.length := by omega
  rw [List.drop_eq_getElem_cons (by omega : ns.length - (i + 1) < ns.length), List.getD_eq_getElem?_getD, List.getElem?_reverse h, List.getElem?_eq_getElem hb]
  have e1 : ns.length - (i + 1) + 1 = ns.length - i := by omega
  have e2 : ns.length - (i + 1) = ns.length - 1 - i := by omega
  rw [e1]
  simp only [Option.getD_some, e2]
theorem pval_bd {a b : Nat} {x : Int} (hx : Bd b x) : ∀ {ns : List Int}, BdL a ns → Bd (a + (b + 1) * ns.length) (pval ns x)
  | [], _ => Bd.zero
  | n :: r, h => by
    have ih := pval_bd hx (ns := r) fun y hy => h y (List.mem_cons_of_mem _ hy)
    have h1 : Bd a n := h n List.mem_cons_self
    have h2 := hx.mul ih
    have h3 := (h1.mono (b := b + (a + (b + 1) * r.length)) (by omega)).add h2
    refine h3.mono ?_
    rw [List.length_cons, Nat.mul_succ]
    omega
theorem Bd.pow {b : Nat} {x : Int} (hx : Bd b x) : ∀ n : Nat, Bd (b * n + 1) (x ^ n)
  | 0 => by unfold Bd; simp
  | n + 1 => by
    rw [Int.pow_succ]
    exact ((Bd.pow hx n).mul hx).mono (by rw [Nat.mul_succ]; omega)
end Pa
namespace Pa
/-! ### loops -/
def lp {α : Type} (f : Nat → α → α) : Nat → α → α
  | 0, s => s
  | n + 1, s => f n (lp f n s)
theorem lp_inv {α : Type} {f : Nat → α → α} {s : α} (p : Nat → α → Prop) (h0 : p 0 s) : ∀ n : Nat, (∀ i a, i < n → p i a → p (i + 1) (f i a)) → p n (lp f n s)
  | 0, _ => h0
  | n + 1, hs => hs n _ (Nat.lt_succ_self n) (lp_inv p h0 n fun i a hi => hs i a (Nat.lt_succ_of_lt hi))

/-! ### products -/
/-- one number's turn -/
def tmIn (x : Int) (ys : List Int) (j k : Nat) (acc : List Int) : List Int := acc.set (j + k) (acc.getD (j + k) 0 + x * ys.getD k 0)
def tmRow (xs ys : List Int) (j : Nat) (acc : List Int) : List Int := lp (tmIn (xs.getD j 0) ys j) ys.length acc
def tmRaw (xs ys : List Int) : List Int := lp (tmRow xs ys) xs.length (List.replicate (xs.length + ys.length) 0)
def tm (xs ys : List Int) : List Int := trim (tmRaw xs ys)
theorem tmIn_len (x : Int) (ys : List Int) (j k : Nat) (acc : List Int) : (tmIn x ys j k acc).length = acc.length := List.length_set
theorem lp_len {f : Nat → List Int → List Int} (h : ∀ i a, (f i a).length = a.length) : ∀ (n : Nat) (s : List Int), (lp f n s).length = s.length
  | 0, _ => rfl
  | n + 1, s => (h n _).trans (lp_len h n s)
theorem tmRow_len (xs ys : List Int) (j : Nat) (acc : List Int) : (tmRow xs ys j acc).length = acc.length := lp_len (fun i a => tmIn_len _ _ _ _ _) _ _
theorem tmRaw_len (xs ys : List Int) : (tmRaw xs ys).length = xs.length + ys.length := by
  unfold tmRaw
  rw [lp_len (fun i a => tmRow_len _ _ _ _), List.length_replicate]
theorem getD_set (l : List Int) (i j : Nat) (x : Int) : (l.set i x).getD j 0 = if i = j then (if i < l.length then x else 0) else l.getD j 0 := by
  rw [List.getD_eq_getElem?_getD, List.getD_eq_getElem?_getD, List.getElem?_set]
  split
  · rename_i h
    subst h
    split
    · rfl
    · rfl
  · rfl
theorem getD_replicate (n j : Nat) : (List.replicate n (0 : Int)).getD j 0 = 0 := by
  rw [List.getD_eq_getElem?_getD, List.getElem?_replicate]
  split <;> rfl
theorem tmIn_getD (x : Int) (ys : List Int) (j k : Nat) (acc : List Int) (i : Nat) : (tmIn x ys j k acc).getD i 0 = if j + k = i then (if j + k < acc.length then acc.getD (j + k) 0 + x * ys.getD k 0 else 0) else acc.getD i 0 := getD_set _ _ _ _
/-- how great a product's numbers are -/
theorem tm_bd {a b c : Nat} {xs ys : List Int} (hx : BdL a xs) (hy : BdL b ys) (hl : xs.length ≤ 2 ^ c) : BdL (a + b + c) (tm xs ys) := by
  refine BdL.trim ?_
  have key : ∀ i, (tmRaw xs ys).getD i 0 = 0 ∨ ((tmRaw xs ys).getD i 0).natAbs < xs.length * 2 ^ (a + b) := by
    unfold tmRaw
    refine lp_inv (fun n (acc : List Int) => ∀ i, acc.getD i 0 = 0 ∨ (acc.getD i 0).natAbs < n * 2 ^ (a + b)) (fun i => .inl (getD_replicate _ _)) xs.length fun j acc hj hacc => ?_
    unfold tmRow
    have in1 : ∀ i, ((lp (tmIn (xs.getD j 0) ys j) ys.length acc).getD i 0 = acc.getD i 0) ∨ (((lp (tmIn (xs.getD j 0) ys j) ys.length acc).getD i 0).natAbs < (acc.getD i 0).natAbs + 2 ^ (a + b)) := by
      have in2 : ∀ n, ∀ i, (i < j + n → ((lp (tmIn (xs.getD j 0) ys j) n acc).getD i 0 = acc.getD i 0) ∨ (((lp (tmIn (xs.getD j 0) ys j) n acc).getD i 0).natAbs < (acc.getD i 0).natAbs + 2 ^ (a + b))) ∧
          (j + n ≤ i → (lp (tmIn (xs.getD j 0) ys j) n acc).getD i 0 = acc.getD i 0) := by
        intro n
        induction n with
        | zero => exact fun i => ⟨fun _ => .inl rfl, fun _ => rfl⟩
        | succ n ih =>
          intro i
          show (_ → (tmIn _ _ _ _ _).getD i 0 = _ ∨ ((tmIn _ _ _ _ _).getD i 0).natAbs < _) ∧ (_ → (tmIn _ _ _ _ _).getD i 0 = _)
          rw [tmIn_getD]
          by_cases hi : j + n = i
          · subst hi
            rw [if_pos rfl]
            refine ⟨fun _ => ?_, fun h => by omega⟩
            have e := (ih (j + n)).2 (Nat.le_refl _)
            by_cases hlt : j + n < (lp (tmIn (xs.getD j 0) ys j) n acc).length
            · rw [if_pos hlt, e]
              right
              have h1 := (hx.at j).mul (hy.at n)
              unfold Bd at h1
              have h2 := Int.natAbs_add_le (acc.getD (j + n) 0) (xs.getD j 0 * ys.getD n 0)
              omega
            · rw [if_neg hlt]
              left
              rw [← e, List.getD_eq_getElem?_getD, List.getElem?_eq_none (by omega)]; rfl
          · rw [if_neg hi]
            exact ⟨fun h => (ih i).1 (by omega), fun h => (ih i).2 (by omega)⟩
      intro i
      by_cases h : i < j + ys.length
      · exact (in2 ys.length i).1 h
      · exact .inl ((in2 ys.length i).2 (by omega))
    intro i
    have hpos : 0 < 2 ^ (a + b) := Nat.two_pow_pos _
    have hsucc : (j + 1) * 2 ^ (a + b) = j * 2 ^ (a + b) + 2 ^ (a + b) := Nat.succ_mul _ _
    rcases in1 i with e | h
    · rw [e]
      rcases hacc i with h0 | h0
      · exact .inl h0
      · exact .inr (by omega)
    · right
      rcases hacc i with h0 | h0
      · rw [h0] at h
        simp only [Int.natAbs_zero] at h
        have : 0 ≤ j * 2 ^ (a + b) := Nat.zero_le _
        omega
      · omega
  intro x hx'
  obtain ⟨i, hi, rfl⟩ := List.getElem_of_mem hx'
  have e : (tmRaw xs ys)[i] = (tmRaw xs ys).getD i 0 := by
    rw [List.getD_eq_getElem?_getD, List.getElem?_eq_getElem hi]; rfl
  rw [e]
  rcases key i with h | h
  · rw [h]; exact Nat.two_pow_pos _
  · refine Nat.lt_of_lt_of_le h ?_
    rw [Nat.pow_add 2 (a + b) c, Nat.mul_comm]
    exact Nat.mul_le_mul_left _ hl
/-- the topmost place stays nought -/
theorem tmRaw_top (xs ys : List Int) (i : Nat) (h : xs.length + ys.length ≤ i + 1) : (tmRaw xs ys).getD i 0 = 0 := by
  unfold tmRaw
  refine lp_inv (fun _ (acc : List Int) => acc.getD i 0 = 0) (getD_replicate _ _) xs.length fun j acc hj hacc => ?_
  unfold tmRow
  refine lp_inv (fun _ (a : List Int) => a.getD i 0 = 0) hacc ys.length fun k a hk ha => ?_
  rw [tmIn_getD, if_neg (by omega)]
  exact ha
theorem trim_len_le {xs : List Int} {n : Nat} (h : ∀ i, n ≤ i → xs.getD i 0 = 0) : (trim xs).length ≤ n := by
  obtain ⟨k, e, c | ⟨ys, y, c, hy⟩⟩ := trim_cases xs
  · rw [c]; exact Nat.zero_le _
  · refine Nat.le_of_not_lt fun hlt => hy ?_
    have hz := h ys.length (by rw [c] at hlt; simp at hlt; omega)
    rw [e, c, List.getD_eq_getElem?_getD] at hz
    simpa using hz
theorem tm_len (xs ys : List Int) : (tm xs ys).length ≤ xs.length + ys.length - 1 := trim_len_le fun i hi => tmRaw_top xs ys i (by omega)
theorem tm_nil_right (xs : List Int) : tm xs [] = [] := by
  have h := trim_len_le (xs := tmRaw xs []) (n := 0) fun i _ => by
    unfold tmRaw
    refine lp_inv (fun _ (acc : List Int) => acc.getD i 0 = 0) (getD_replicate _ _) xs.length fun j acc hj hacc => hacc
  exact List.length_eq_zero_iff.mp (Nat.le_zero.mp h)
theorem tm_tr (xs ys : List Int) : Tr (tm xs ys) := tr_trim _

/-! ### powers -/
def pw (xs : List Int) : Nat → List Int
  | 0 => [1]
  | n + 1 => tm (pw xs n) xs
theorem pw_len (xs : List Int) : ∀ n : Nat, (pw xs n).length ≤ 1 + n * (xs.length - 1)
  | 0 => by simp [pw]
  | n + 1 => by
    have ih := pw_len xs n
    show (tm (pw xs n) xs).length ≤ _
    cases xs with
    | nil => rw [tm_nil_right]; exact Nat.zero_le _
    | cons x r =>
      have h := tm_len (pw (x :: r) n) (x :: r)
      simp only [List.length_cons, Nat.add_sub_cancel] at h ih ⊢
      rw [Nat.succ_mul]
      omega
theorem pw_bd {b c : Nat} {xs : List Int} (hx : BdL b xs) : ∀ n : Nat, (∀ i, i < n → (pw xs i).length ≤ 2 ^ c) → BdL (1 + n * (b + c)) (pw xs n)
  | 0, _ => fun x hx => by
    have : x = 1 := by simpa [pw] using hx
    subst this
    rw [Nat.zero_mul]; decide
  | n + 1, h => by
    have ih := pw_bd hx n fun i hi => h i (Nat.lt_succ_of_lt hi)
    refine (tm_bd ih hx (h n (Nat.lt_succ_self n))).mono ?_
    rw [Nat.succ_mul]; omega
end Pa

namespace Pa
open PySem PySem.Spec PyProof.Rows L2

abbrev veT : List Value := [.type "ValueError", .type "Exception", .type "BaseException", .type "object"]
/-- what the top says of an error's class -/
structure Err (K : PySem.W.Frag) (mg : Str → Option Value) (x : Str) (C : Addr) : Prop where
  g : mg x = some (.ref C)
  x : PySem.W.excIn K C veT "ValueError.__new__" = true
  k : PySem.W.keepIn K (.ref C) = true
  b : PySem.W.subIn K (.ref C) (.type "BaseException") = some true
  t : PySem.W.typeIn K (.ref C) = some (.type "type")
  h : PySem.W.hasDictIn K C = true
  i : ExcC K C
  v : PySem.W.kitOne K (.ref C) (.type "ValueError") = some true

theorem kit_ve {K : PySem.W.Frag} {C : Addr} (h : PySem.W.subIn K (.ref C) (.type "ValueError") = some true) : PySem.W.kitOne K (.ref C) (.type "ValueError") = some true := by
  have m : PySem.W.kitMeta "ValueError" = true := by decide +kernel
  unfold PySem.W.kitOne
  rw [if_neg (by intro z; exact nomatch (beq_iff_eq.mp z))]
  show (if PySem.W.kitMeta "ValueError" = true then PySem.W.subIn K (.ref C) (.type "ValueError") else none) = some true
  rw [if_pos m]
  exact h
/-! ### an exception's way -/
/-- a wish of an exception, over the owned objects -/
def NX (Wx : WX) (cls : Value) (d : Option Addr) (σ : St) (H0 : Hp) (fs : Fs) : Prop := ∀ H, Kn H0 fs H → Wx cls d σ H
def NE (E : XK) (cls : Value) (d : Option Addr) (H0 : Hp) (fs : Fs) : Prop := ∀ H, Kn H0 fs H → E cls d H
/-- a call that raises for certain -/
def WCX (sp : Sp) (vs : List V) (H0 : Hp) (fs : Fs) (Ψ : Value → Option Addr → Fs → Prop) : Prop := ∀ H, Kn H0 fs H → ∀ (Q : VK) (E : XK), (∀ cls d f' H', Kn H0 f' H' → Ψ cls d f' → E cls d H') → sp vs H Q E
/-- one that may raise -/
def WCB (sp : Sp) (vs : List V) (H0 : Hp) (fs : Fs) (Φ : CV) (Ψ : Value → Option Addr → Fs → Prop) : Prop := ∀ H, Kn H0 fs H → ∀ (Q : VK) (E : XK), (∀ v fs' H', Kn H0 fs' H' → Φ v fs' → Q v H') → (∀ cls d f' H', Kn H0 f' H' → Ψ cls d f' → E cls d H') → sp vs H Q E
section
variable {σ : St} {H0 : Hp} {fs : Fs} {Φ : CV} {tr : TA} {Wx : WX} {K : PySem.W.Frag} {c cls : Value} {d : Option Addr} {D : Ends} {ts : Addr → Value → Option Addr → TS} {Wout : WX} {i : Nat}
theorem W.callX {sp : Sp} (h : WA tr σ H0 fs fun vs f1 => WCX sp vs H0 f1 fun cls d f2 => NX Wx cls d σ H0 f2) : W (tCallS sp (WE Wx) tr) σ H0 fs Φ := fun H k Q _ =>
  h H k _ fun vs _ H1 k1 h1 => h1 H1 k1 Q _ fun cls d _ H2 k2 n => n H2 k2
theorem W.callB {sp : Sp} (h : WA tr σ H0 fs fun vs f1 => WCB sp vs H0 f1 Φ fun cls d f2 => NX Wx cls d σ H0 f2) : W (tCallS sp (WE Wx) tr) σ H0 fs Φ := fun H k Q cc =>
  h H k _ fun vs _ H1 k1 h1 => h1 H1 k1 Q _ cc fun cls d _ H2 k2 n => n H2 k2
theorem NX.only (hb : PySem.W.exmOne K cls c = some true) (h : ∀ a, N (ts a cls d D) σ H0 fs) : NX (wOnly K c ts Wout D) cls d σ H0 fs := fun H k => ⟨true, hb, fun _ a _ => h a H k, fun z => Bool.noConfusion z⟩
theorem NX.onlyF (hb : PySem.W.exmOne K cls c = some false) (h : NX Wout cls d σ H0 fs) : NX (wOnly K c ts Wout D) cls d σ H0 fs := fun H k => ⟨false, hb, fun z => Bool.noConfusion z, fun _ => h H k⟩
theorem NX.as (hb : PySem.W.exmOne K cls c = some true) (h : ∀ a, N (ts a cls d { nx := fun σ' H' => D.nx (σ'.set i none) H', rt := D.rt, bk := fun σ' H' => D.bk (σ'.set i none) H', ct := fun σ' H' => D.ct (σ'.set i none) H' }) (σ.set i (some (.ref a))) H0 fs) :
    NX (wAs K c i ts Wout D) cls d σ H0 fs := fun H k => ⟨true, hb, fun _ a _ => h a H k, fun z => Bool.noConfusion z⟩
theorem NX.many (hb : PySem.W.exmOne K cls c = some true) {r : List (Value × (Addr → Value → Option Addr → TS))} (h : ∀ a, N (ts a cls d D) σ H0 fs) : NX (wMany K Wout D ((c, ts) :: r)) cls d σ H0 fs := fun H k => ⟨true, hb, fun _ a _ => h a H k, fun z => Bool.noConfusion z⟩
theorem NX.manyF (hb : PySem.W.exmOne K cls c = some false) {r : List (Value × (Addr → Value → Option Addr → TS))} (h : NX (wMany K Wout D r) cls d σ H0 fs) : NX (wMany K Wout D ((c, ts) :: r)) cls d σ H0 fs := fun H k => ⟨false, hb, fun z => Bool.noConfusion z, fun _ => h H k⟩
end
/-- isinstance(e, T) of the error that the suite holds -/
def rIsV (K : PySem.W.Frag) (a : Addr) (cls : Value) (d : Option Addr) : List V → Hp → VK → Prop := fun xs H Q => ∃ D, cls = .ref D ∧ d = none ∧ ExcC K D ∧ rIsE K D a xs H Q
theorem call_isV {X : Cx} {a : Addr} {cls : Value} {d : Option Addr} {oe : Obj} {pn : List (Addr × Obj)} (hz : Zc cls d oe) (hf : ∃ vs, oe.data = .fields vs) : CallR (X.suite a ((a, oe) :: pn)) (.builtin "isinstance") (rIsV X.K a cls d) := by
  intro pins s σ H xs us Q I r h
  obtain ⟨D, e1, e2, C, h⟩ := h
  subst e1 e2
  exact call_isE C hz hf pins s σ H xs us Q I r h
theorem RC.isV {K : PySem.W.Frag} {H0 : Hp} {fs : Fs} {Φ : CV} {a D : Addr} {n : String} {b : Bool} (C : ExcC K D) (hk : PySem.W.kitOne K (.ref D) (.type n) = some b) (q : Φ (.bl b) fs) : RC (rIsV K a (.ref D) none) [.ref a, .ty n] H0 fs Φ := fun H k Q c =>
  ⟨D, rfl, rfl, C, .ty n, .type n, b, rfl, fun u r => r, hk, c _ fs H k q⟩
theorem call_isVK {X : Cx} {K : PySem.W.Frag} {a : Addr} {cls : Value} {d : Option Addr} {oe : Obj} {pn : List (Addr × Obj)} (hK : X.K = K) (hz : Zc cls d oe) (hf : ∃ vs, oe.data = .fields vs) : CallR (X.suite a ((a, oe) :: pn)) (.builtin "isinstance") (rIsV K a cls d) := by
  subst hK
  exact call_isV hz hf
section
variable {X : Cx} {K : PySem.W.Frag} {x n : Str} {c : Value} {i : Nat} {body suite : List Stmt} {b₀ : Stmt} {np pos pos' : Pos} {tb : WX → TS} {ts : Addr → Value → Option Addr → TS} {Wout : WX}
theorem ps_try_asK (hK : X.K = K) (hs : X.stack = X.env :: X.outer) (hf : X.env.frame = some X.env.locals) (hN : X.N.Nodup) (hi : X.N[i]? = some n) (hln : X.env.kindOf n = some .local) (hc : Names X x c) (tk : Takes X Wout)
    (hb : ∀ (W : WX) (pn : List (Addr × Obj)) (xe : Value → Shared → Prop), Takes (X.tr pn xe) W → PassesOwn (model X.prog X.w) X.A X.env xe → PSs (X.tr pn xe) body (tb W))
    (hsu : ∀ (a : Addr) (oe : Obj) (cls : Value) (d : Option Addr) (pn : List (Addr × Obj)), Zc cls d oe → (∃ vs, oe.data = .fields vs) → PSs (X.suite a ((a, oe) :: pn)) (b₀ :: suite) (ts a cls d)) :
    PS X (.Try body [.ExceptHandler (some (.Name x np)) (some n) (b₀ :: suite) pos'] [] [] pos) (fun D σ H => tb (wAs K c i ts Wout D) D σ H) := by
  subst hK
  exact ps_try_as hs hf hN hi hln hc tk hb hsu
theorem ps_try_onlyK (hK : X.K = K) (hs : X.stack = X.env :: X.outer) (hf : X.env.frame = some X.env.locals) (hc : Names X x c) (tk : Takes X Wout)
    (hb : ∀ (W : WX) (pn : List (Addr × Obj)) (xe : Value → Shared → Prop), Takes (X.tr pn xe) W → PassesOwn (model X.prog X.w) X.A X.env xe → PSs (X.tr pn xe) body (tb W))
    (hsu : ∀ (a : Addr) (oe : Obj) (cls : Value) (d : Option Addr) (pn : List (Addr × Obj)), Zc cls d oe → (∃ vs, oe.data = .fields vs) → PSs (X.suite a ((a, oe) :: pn)) (b₀ :: suite) (ts a cls d)) :
    PS X (.Try body [.ExceptHandler (some (.Name x np)) none (b₀ :: suite) pos'] [] [] pos) (fun D σ H => tb (wOnly K c ts Wout D) D σ H) := by
  subst hK
  exact ps_try_only hs hf hc tk hb hsu
theorem ps_try_manyK {h₀ : ExceptHandler} {hds : List ExceptHandler} {l : List (Value × (Addr → Value → Option Addr → TS))} (hK : X.K = K) (hs : X.stack = X.env :: X.outer) (hf : X.env.frame = some X.env.locals) (tk : Takes X Wout)
    (hb : ∀ (W : WX) (pn : List (Addr × Obj)) (xe : Value → Shared → Prop), Takes (X.tr pn xe) W → PassesOwn (model X.prog X.w) X.A X.env xe → PSs (X.tr pn xe) body (tb W))
    (hh : HdsOk X (h₀ :: hds) l) : PS X (.Try body (h₀ :: hds) [] [] pos) (fun D σ H => tb (wMany K Wout D l) D σ H) := by
  subst hK
  exact ps_try_many hs hf tk hb hh
end
/-- two promises of one def -/
theorem FnOk.both {P : Program} {w : World} {K : PySem.W.Frag} {mg : Str → Option Value} {base : Heap} {k k' : Nat} {f : Addr} {fd : FuncData} {ps : List Str} {sp1 sp2 : Sp}
    (F1 : FnOk P w K mg base CX0 k f fd ps sp1) (F2 : FnOk P w K mg base (L2.CX P w) k' f fd ps sp2) : FnOk P w K mg base (L2.CX P w) (max k k') f fd ps (fun vs H Q E => sp1 vs H Q E ∨ sp2 vs H Q E) :=
  ⟨fun vs H Q E h => h.elim (F1.len vs H Q E) (F2.len vs H Q E), fun A outer s H args us vs Q E hr he hb hv hs => by
    rcases hs with hs | hs
    · refine codeAny_mono ((F1.mono (Nat.le_max_left k k')).run A outer s H args us vs Q E hr he hb hv hs) fun r s' h => ?_
      cases r with
      | error e => exact False.elim h
      | ok fl => cases fl <;> exact h
    · exact (F2.mono (Nat.le_max_right k k')).run A outer s H args us vs Q E hr he hb hv hs⟩
/-- one that never raises, among those that may -/
theorem FnOk.up {P : Program} {w : World} {K : PySem.W.Frag} {mg : Str → Option Value} {base : Heap} {k : Nat} {f : Addr} {fd : FuncData} {ps : List Str} {sp1 : Sp}
    (F1 : FnOk P w K mg base CX0 k f fd ps sp1) : FnOk P w K mg base (L2.CX P w) k f fd ps sp1 :=
  ⟨F1.len, fun A outer s H args us vs Q E hr he hb hv hs => codeAny_mono (F1.run A outer s H args us vs Q E hr he hb hv hs) fun r s' h => by
    cases r with
    | error e => exact False.elim h
    | ok fl => cases fl <;> exact h⟩
/-- a block that begins with an if and is left in it -/
theorem S.never {D : Ends} {σ : St} {H0 : Hp} {fs : Fs} (h : False) : N (tNever D) σ H0 fs := h.elim
section
variable {P : Program} {w : World} {K : PySem.W.Frag} {mg : Str → Option Value} {base : Heap}
theorem passesX {N : List Str} {qual : Str} {scope : Scope} {f : Addr} {cd : Value} {A : Around} {outer : List Env} {s : Shared} {H : Hp} {E : XK} :
    PassesOwn (model P w) (cxOf (L2.CX P w) P w K mg base N qual scope f cd A outer s H E).A (cxOf (L2.CX P w) P w K mg base N qual scope f cd A outer s H E).env (cxOf (L2.CX P w) P w K mg base N qual scope f cd A outer s H E).xe :=
  passes_of (X := cxOf (L2.CX P w) P w K mg base N qual scope f cd A outer s H E) (K := fun e s' => L2.CX P w outer H s E e s') (E₁ := fun e' s'' => L2.CX P w outer H s E e' s'') rfl
end
end Pa

namespace Pa
open PySem PySem.Spec PyProof.Rows L2

/-! ### data -/
def zD (ns : List Int) : PyData := .list (ns.map .int)
theorem zD_layAll : ∀ ns : List Int, PyData.canLayAll0 (ns.map PyData.int) = true
  | [] => rfl
  | n :: r => by
    show (PyData.canLay0 (.int n) && PyData.canLayAll0 (r.map PyData.int)) = true
    rw [zD_layAll r]; rfl
theorem zD_depthAll : ∀ ns : List Int, PyData.depthAll (ns.map PyData.int) = 0
  | [] => rfl
  | n :: r => by
    show max (PyData.depth (.int n)) (PyData.depthAll (r.map PyData.int)) = 0
    rw [zD_depthAll r]; rfl
theorem zD_lay (ns : List Int) : PyData.canLay0 (zD ns) = true := by
  show PyData.canLayAll0 (ns.map PyData.int) = true
  exact zD_layAll ns
theorem zD_depth (ns : List Int) : PyData.depth (zD ns) = 1 := by
  show PyData.depthAll (ns.map PyData.int) + 1 = 1
  rw [zD_depthAll]
theorem zD_shaped (ns : List Int) : SeqAt.shaped (zD ns) = true := by
  unfold SeqAt.shaped
  rw [zD_lay, zD_depth]; rfl
theorem zD_eqvAll : ∀ xs ys : List Int, PyData.eqvAll (xs.map PyData.int) (ys.map PyData.int) = decide (xs = ys)
  | [], [] => rfl
  | [], y :: ys => rfl
  | x :: xs, [] => rfl
  | x :: xs, y :: ys => by
    show (PyData.eqv (.int x) (.int y) && PyData.eqvAll (xs.map PyData.int) (ys.map PyData.int)) = _
    rw [zD_eqvAll xs ys]
    show ((x == y) && decide (xs = ys)) = _
    rw [Bool.eq_iff_iff]
    simp
theorem zD_eqv (xs ys : List Int) : PyData.eqv (zD xs) (zD ys) = decide (xs = ys) := zD_eqvAll xs ys
theorem zD_dp {K : PySem.W.Frag} {H : Hp} : ∀ ns : List Int, DpAll K H (zV ns) (ns.map PyData.int)
  | [] => .nil
  | n :: r => .cons (.int n) (zD_dp r)
/-- what stands at a value, as data -/
def Rd (K : PySem.W.Frag) (H0 : Hp) (fs : Fs) (v : V) (d : PyData) : Prop := ∀ H, Kn H0 fs H → Dp K H v d
def RdA (K : PySem.W.Frag) (H0 : Hp) (fs : Fs) (vs : List V) (ds : List PyData) : Prop := ∀ H, Kn H0 fs H → DpAll K H vs ds
section
variable {K : PySem.W.Frag} {H0 : Hp} {fs : Fs} {Φ : CV} {x y : V}
theorem Rd.z {a : Addr} {ns : List Int} (h : Rl K H0 fs a (zV ns)) : Rd K H0 fs (.ref a) (zD ns) := fun H k => .lst (h H k) (zD_dp ns)
theorem Rd.int {i : Int} : Rd K H0 fs (.int i) (.int i) := fun _ _ => .int i
theorem Rd.lst {a : Addr} {vs : List V} {ds : List PyData} (h : Rl K H0 fs a vs) (hd : RdA K H0 fs vs ds) : Rd K H0 fs (.ref a) (.list ds) := fun H k => .lst (h H k) (hd H k)
theorem Rd.tup {a : Addr} {vs : List V} {ds : List PyData} (h : Rt K H0 fs a vs) (hd : RdA K H0 fs vs ds) : Rd K H0 fs (.ref a) (.tuple ds) := fun H k => .tup (h H k) (hd H k)
theorem RdA.nil : RdA K H0 fs [] [] := fun _ _ => .nil
theorem RdA.cons {v : V} {vs : List V} {d : PyData} {ds : List PyData} (h : Rd K H0 fs v d) (hr : RdA K H0 fs vs ds) : RdA K H0 fs (v :: vs) (d :: ds) := fun H k => .cons (h H k) (hr H k)
theorem RW.eqD {d e : PyData} (h : Rd K H0 fs x d) (h2 : Rd K H0 fs y e) (s1 : SeqAt.shaped d = true) (s2 : SeqAt.shaped e = true) (q : Φ (.bl (PyData.eqv d e)) fs) : RW (rEqD K) x y H0 fs Φ := fun H k _ c => ⟨d, e, h H k, h2 H k, s1, s2, c _ fs H k q⟩
theorem RW.neD {d e : PyData} (h : Rd K H0 fs x d) (h2 : Rd K H0 fs y e) (s1 : SeqAt.shaped d = true) (s2 : SeqAt.shaped e = true) (q : Φ (.bl (!PyData.eqv d e)) fs) : RW (rNeD K) x y H0 fs Φ := fun H k _ c => ⟨d, e, h H k, h2 H k, s1, s2, c _ fs H k q⟩
theorem RW.eqZ {a b : Addr} {xs ys : List Int} (h : Rl K H0 fs a (zV xs)) (h2 : Rl K H0 fs b (zV ys)) (q : Φ (.bl (decide (xs = ys))) fs) : RW (rEqD K) (.ref a) (.ref b) H0 fs Φ :=
  RW.eqD (Rd.z h) (Rd.z h2) (zD_shaped _) (zD_shaped _) (by rw [zD_eqv]; exact q)
theorem RW.neZ {a b : Addr} {xs ys : List Int} (h : Rl K H0 fs a (zV xs)) (h2 : Rl K H0 fs b (zV ys)) (q : Φ (.bl (!decide (xs = ys))) fs) : RW (rNeD K) (.ref a) (.ref b) H0 fs Φ :=
  RW.neD (Rd.z h) (Rd.z h2) (zD_shaped _) (zD_shaped _) (by rw [zD_eqv]; exact q)
end
/-- x in a written tuple -/
def rInT (K : PySem.W.Frag) : R2 := fun x y H Q => ∃ d ds, Dp K H x d ∧ Dp K H y (.tuple ds) ∧ SeqAt.shaped d = true ∧ SeqAt.shaped (.tuple ds) = true ∧ Q (.bl (ds.any fun z => PyData.eqv z d)) H
theorem op_inT {X : Cx} {k : Nat} (hr : Room k X.A) : OpR X (compareOp .In) (rInT X.K) := by
  intro pins s σ H x y v u Q I rx ry h
  obtain ⟨d, ds, hd, he, sd, se, q⟩ := h
  obtain ⟨as, r1⟩ := Dp.reads I d x v hd rx
  obtain ⟨bs, r2⟩ := Dp.reads I (.tuple ds) y u he ry
  exact SeqAt.in_tuple_reads r2 r1 (SeqAt.canLay_of_shaped se) (SeqAt.canLay_of_shaped sd) (room_in_shaped sd (by have := hr.un; omega)) ⟨.bl _, H, I, rfl, q⟩
theorem op_inDr {X : Cx} {k : Nat} (hr : Room k X.A) : OpR X (compareOp .In) (rInD X.K) := op_inD (by have := hr.un; omega)
theorem op_notInDr {X : Cx} {k : Nat} (hr : Room k X.A) : OpR X (compareOp .NotIn) (rNotInD X.K) := op_notInD (by have := hr.un; omega)
section
variable {K : PySem.W.Frag} {H0 : Hp} {fs : Fs} {Φ : CV} {x y : V}
theorem RW.inT {d : PyData} {ds : List PyData} (h : Rd K H0 fs x d) (h2 : Rd K H0 fs y (.tuple ds)) (s1 : SeqAt.shaped d = true) (s2 : SeqAt.shaped (.tuple ds) = true) (q : Φ (.bl (ds.any fun z => PyData.eqv z d)) fs) : RW (rInT K) x y H0 fs Φ :=
  fun H k _ c => ⟨d, ds, h H k, h2 H k, s1, s2, c _ fs H k q⟩
theorem RW.inD {d : PyData} {ds : List PyData} (h : Rd K H0 fs x d) (h2 : Rd K H0 fs y (.list ds)) (s1 : SeqAt.shaped d = true) (s2 : SeqAt.shaped (.list ds) = true) (q : Φ (.bl (ds.any fun z => PyData.eqv z d)) fs) : RW (rInD K) x y H0 fs Φ :=
  fun H k _ c => ⟨d, ds, h H k, h2 H k, s1, s2, c _ fs H k q⟩
theorem RW.notInD {d : PyData} {ds : List PyData} (h : Rd K H0 fs x d) (h2 : Rd K H0 fs y (.list ds)) (s1 : SeqAt.shaped d = true) (s2 : SeqAt.shaped (.list ds) = true) (q : Φ (.bl (!ds.any fun z => PyData.eqv z d)) fs) : RW (rNotInD K) x y H0 fs Φ :=
  fun H k _ c => ⟨d, ds, h H k, h2 H k, s1, s2, c _ fs H k q⟩
/-- written lists of ints -/
theorem W.lst0 {σ : St} (h : ∀ p, Φ (.ref p) ((p, .lst (zV [])) :: fs)) : W (tLst tNil) σ H0 fs Φ := W.lst (WA.nil ⟨by simp, h⟩)
theorem W.lst1 {σ : St} {ta : TE} (h : W ta σ H0 fs fun x f1 => ∃ a, x = .int a ∧ ∀ p, Φ (.ref p) ((p, .lst (zV [a])) :: f1)) : W (tLst (tCons ta tNil)) σ H0 fs Φ := fun H k Q c =>
  h H k _ fun x f1 H1 k1 ⟨a, e, q⟩ => by
    subst e
    exact ⟨sz_le (by simp), fun p hp => c _ _ _ (k1.new hp) (q p)⟩
end

/-! ### for x in a list or a tuple -/
def iSeq (K : PySem.W.Frag) (tl : TE) : TI := fun σ H R => iList K tl σ H R ∨ iTup K tl σ H R
theorem pi_seq {X : Cx} {tg l : Expr} {tl : TE} (hl : PE X l tl) : PI X tg l (iSeq X.K tl) :=
  ⟨fun pins s σ H R I h => h.elim (fun h => (pi_list hl).run pins s σ H R I h) fun h => (pi_tup hl).run pins s σ H R I h⟩
section
variable {σ : St} {H0 : Hp} {fs : Fs} {te : TE} {D : Ends} {ts : TS} {K : PySem.W.Frag}
theorem S.forQ {a : Addr} {xs : List V} {g : TG} (hq : SqL K H0 a xs ∨ SqT K H0 a xs) (I : Nat → St → Fs → Prop)
    (h : ∀ Φ : CV, Φ (.ref a) fs → W te σ H0 fs Φ) (h0 : I 0 σ fs)
    (hs : ∀ (i : Nat) x σ' f', xs[i]? = some x → I i σ' f' → ∀ H, Kn H0 f' H → g x σ' H fun σ2 H2 => ts { D with nx := Lp H0 I (i + 1), ct := Lp H0 I (i + 1), bk := D.nx } σ2 H2)
    (hd : ∀ σ' f', I xs.length σ' f' → N D.nx σ' H0 f') : N (tFor (iSeq K te) g ts D) σ H0 fs := fun H k => by
  rcases hq with hq | hq
  · refine .inl (h (fun v f1 => v = .ref a ∧ f1 = fs) ⟨rfl, rfl⟩ H k _ fun v f1 H1 k1 ⟨e, ef⟩ => ?_)
    subst ef
    refine ⟨a, e, ⟨xs, k1.same.seq hq⟩, for_list (K := K) (a := a) (xs := xs) (Lp H0 I) ⟨f1, k1, h0⟩ (fun i σ' H' _ p => ?_) (fun i x σ' H' hx p => ?_) (fun σ' H' p => ?_)⟩
    · obtain ⟨f', k', p⟩ := p.ex
      exact k'.same.seq hq
    · obtain ⟨f', k', p⟩ := p.ex
      exact hs i x σ' f' hx p H' k'
    · obtain ⟨f', k', p⟩ := p.ex
      exact hd σ' f' p H' k'
  · have st : ∀ {H' : Hp}, Same H0 H' → SqT K H' a xs := fun {H'} s => by
      rcases hq with (hq | ⟨o, hq⟩) | hq
      · exact .inl (.inl (s _ _ hq))
      · exact .inl (.inr ⟨o, s _ _ hq⟩)
      · exact .inr hq
    refine .inr (h (fun v f1 => v = .ref a ∧ f1 = fs) ⟨rfl, rfl⟩ H k _ fun v f1 H1 k1 ⟨e, ef⟩ => ?_)
    subst ef
    refine ⟨a, e, ⟨xs, st k1.same⟩, for_tup (K := K) (a := a) (xs := xs) (Lp H0 I) ⟨f1, k1, h0⟩ (fun i σ' H' _ p => ?_) (fun i x σ' H' hx p => ?_) (fun σ' H' p => ?_)⟩
    · obtain ⟨f', k', p⟩ := p.ex
      exact st k'.same
    · obtain ⟨f', k', p⟩ := p.ex
      exact hs i x σ' f' hx p H' k'
    · obtain ⟨f', k', p⟩ := p.ex
      exact hd σ' f' p H' k'
theorem RC.listQ {p : Addr} {xs : List V} {Φ : CV} (h : SqL K H0 p xs ∨ SqT K H0 p xs) (q : ∀ l, Φ (.ref l) ((l, .lst xs) :: fs)) : RC (rListOf K) [.ref p] H0 fs Φ := by
  rcases h with h | h
  · exact RC.listL (Rl.sq h) q
  · refine RC.listT (fun H k => ?_) q
    have s := k.same
    rcases h with (h | ⟨o, h⟩) | h
    · exact .inl (.inl (s _ _ h))
    · exact .inl (.inr ⟨o, s _ _ h⟩)
    · exact .inr h
end
/-- things that are no whole number -/
def OddH (H : Hp) (v : V) : Prop := (∃ b, v = .bl b) ∨ v = .non ∨ (∃ s, v = .str s) ∨ (∃ p l, v = .ref p ∧ H p = some (.lst l)) ∨ ∃ p l, v = .ref p ∧ H p = some (.tup l)
theorem OddH.same {H H' : Hp} {v : V} (h : OddH H v) (s : Same H H') : OddH H' v := by
  rcases h with h | h | h | ⟨p, l, e, h⟩ | ⟨p, l, e, h⟩
  · exact .inl h
  · exact .inr (.inl h)
  · exact .inr (.inr (.inl h))
  · exact .inr (.inr (.inr (.inl ⟨p, l, e, s _ _ h⟩)))
  · exact .inr (.inr (.inr (.inr ⟨p, l, e, s _ _ h⟩)))
def OddF (fs : Fs) (v : V) : Prop := (∃ b, v = .bl b) ∨ v = .non ∨ (∃ s, v = .str s) ∨ (∃ p l, v = .ref p ∧ (p, HO.lst l) ∈ fs) ∨ ∃ p l, v = .ref p ∧ (p, HO.tup l) ∈ fs
theorem OddF.at {H0 H : Hp} {fs : Fs} {v : V} (h : OddF fs v) (k : Kn H0 fs H) : OddH H v := by
  rcases h with h | h | h | ⟨p, l, e, h⟩ | ⟨p, l, e, h⟩
  · exact .inl h
  · exact .inr (.inl h)
  · exact .inr (.inr (.inl h))
  · exact .inr (.inr (.inr (.inl ⟨p, l, e, k.get h⟩)))
  · exact .inr (.inr (.inr (.inr ⟨p, l, e, k.get h⟩)))
theorem OddF.mono {fs fs' : Fs} {v : V} (h : OddF fs v) (hs : ∀ x ∈ fs, x ∈ fs') : OddF fs' v := by
  rcases h with h | h | h | ⟨p, l, e, h⟩ | ⟨p, l, e, h⟩
  · exact .inl h
  · exact .inr (.inl h)
  · exact .inr (.inr (.inl h))
  · exact .inr (.inr (.inr (.inl ⟨p, l, e, hs _ h⟩)))
  · exact .inr (.inr (.inr (.inr ⟨p, l, e, hs _ h⟩)))
end Pa

namespace Pa
open PySem PySem.Spec PyProof.Rows L2

theorem Kn.front {H0 : Hp} : ∀ {fs : Fs} {H : Hp} {i : Nat} {x : Addr × HO}, Kn H0 fs H → fs[i]? = some x → Kn H0 (x :: fs.eraseIdx i) H
  | [], _, _, _, _, h => by simp at h
  | y :: fs, H, 0, x, k, h => by
    have e : y = x := Option.some.inj h
    subst e; exact k
  | y :: fs, H, i + 1, x, ⟨e, H1, s, n, k⟩, h => by
    have h' : fs[i]? = some x := by simpa using h
    have k' := Kn.front k h'
    have k2 : Kn H0 (y :: x :: fs.eraseIdx i) H := ⟨e, H1, s, n, k'⟩
    exact k2.swap

section
variable {σ : St} {H0 : Hp} {fs : Fs} {Φ : CV} {te tl : TE} {tt : TT} {K : PySem.W.Frag}
/-- over range(lo, n): the i-th item is g i -/
theorem W.lcR2z {ta : TA} {j : Nat} {vs : List Nat} {lo n : Int} (g : Nat → Int)
    (h : WA ta σ H0 fs fun us f1 => us = [.int lo, .int n] ∧ (n ≤ 100000 ∧ -100000 ≤ n ∧ lo ≤ 100000 ∧ 0 ≤ lo) ∧
      (∀ x, wipe ((wipe σ vs).set j (some x)) vs = wipe σ vs) ∧
      (∀ (i : Nat) (D : Addr) (acc : List V), lo + (i : Int) < n → W te ((wipe σ vs).set j (some (.int (lo + (i : Int))))) H0 ((D, .lst acc) :: f1) fun v f2 => v = .int (g i) ∧ List.Sublist ((D, .lst acc) :: f1) f2) ∧
      ∀ D, Φ (.ref D) ((D, .lst (zV ((List.range (n - lo).toNat).map g))) :: f1)) : W (tLc (iRng2 ta) (gName j) tYes te vs) σ H0 fs Φ := fun H k Q c =>
  h H k _ fun us f1 H1 k1 ⟨e, hn, hw, hs, hd⟩ => by
    refine ⟨lo, n, e, ⟨by omega, by omega, by omega, by omega⟩, fun D hD => ?_⟩
    refine lc_range (lo := lo) (n := (n - lo).toNat) (fun i H' => Kn H0 ((D, .lst (zV ((List.range i).map g))) :: f1) H') (k1.new hD) (fun i H' hi p => ?_) (fun H' p => c _ _ _ p (hd D))
    refine ⟨hw _, ?_⟩
    show te ((wipe σ vs).set j (some (.int (lo + (i : Int))))) H' _
    refine hs i D _ (by omega) H' p _ fun v f2 H2 k2 ⟨ev, sb⟩ => ?_
    subst ev
    have k3 := k2.sub sb
    refine ⟨_, k3.get (.head _), sz_lt (by rw [zV_length]; simp; omega), ?_⟩
    have k4 := k3.put (i := 0) (o' := .lst (zV ((List.range i).map g) ++ [.int (g i)])) rfl
    show Kn H0 ((D, .lst (zV ((List.range (i + 1)).map g))) :: f1) _
    rw [List.range_succ, List.map_append, ← zV_app]
    exact k4
/-- over a list, with tests, items that may be made anew -/
theorem W.lcG {a : Addr} {xs : List V} {j : Nat} {vs : List Nat} (I : Nat → List V → Fs → Prop)
    (h : W tl σ H0 fs fun v f1 => v = .ref a ∧ Rl K H0 f1 a xs ∧ xs.length ≤ 100000 ∧ I 0 [] f1)
    (hl : ∀ i acc f, I i acc f → Rl K H0 f a xs)
    (hw : ∀ x, wipe ((wipe σ vs).set j (some x)) vs = wipe σ vs)
    (hs : ∀ (i : Nat) (x : V) (D : Addr) (acc : List V) (f : Fs), xs[i]? = some x → I i acc f →
      WT tt ((wipe σ vs).set j (some x)) H0 ((D, .lst acc) :: f) fun b f2 =>
        (b = true → W te ((wipe σ vs).set j (some x)) H0 f2 fun v f3 => ∃ m, f3[m]? = some (D, .lst acc) ∧ I (i + 1) (acc ++ [v]) (f3.eraseIdx m)) ∧
        (b = false → ∃ m, f2[m]? = some (D, .lst acc) ∧ I (i + 1) acc (f2.eraseIdx m)))
    (hd : ∀ D acc f, I xs.length acc f → Φ (.ref D) ((D, .lst acc) :: f)) : W (tLc (iList K tl) (gName j) tt te vs) σ H0 fs Φ := fun H k Q c =>
  h H k _ fun v f1 H1 k1 ⟨e, hr, hn, h0⟩ => by
    refine ⟨a, e, ⟨_, hr H1 k1⟩, fun D hD => ?_⟩
    refine lc_list (K := K) (a := a) (xs := xs) (fun i H' => ∃ acc f, Kn H0 ((D, .lst acc) :: f) H' ∧ I i acc f ∧ acc.length ≤ i) ⟨[], f1, k1.new hD, h0, Nat.le_refl _⟩ (fun i H' _ ⟨acc, f, p, hi, _⟩ => hl i acc f hi H' p.drop) (fun i x H' hx ⟨acc, f, p, hi, hlen⟩ => ?_) (fun H' ⟨acc, f, p, hi, _⟩ => c _ _ _ p (hd D acc f hi))
    obtain ⟨hlt, _⟩ := List.getElem?_eq_some_iff.mp hx
    refine ⟨hw _, ?_⟩
    show tt ((wipe σ vs).set j (some x)) H' _
    refine hs i x D acc f hx hi H' p _ fun b f2 H2 k2 ⟨ht, hf⟩ => ?_
    cases b with
    | true =>
      show te _ _ _
      refine ht rfl H2 k2 _ fun v f3 H3 k3 ⟨m, hm, hI⟩ => ?_
      have k4 := k3.front hm
      refine ⟨acc, k4.get (.head _), sz_lt (by omega), acc ++ [v], f3.eraseIdx m, k4.put (i := 0) rfl, hI, by simp; omega⟩
    | false =>
      obtain ⟨m, hm, hI⟩ := hf rfl
      exact ⟨acc, _, k2.front hm, hI, by omega⟩
/-- .. over a range -/
theorem W.lcRG {ta : TA} {n : Int} {j : Nat} {vs : List Nat} (I : Nat → List V → Fs → Prop)
    (h : WA ta σ H0 fs fun us f1 => us = [.int n] ∧ (n ≤ 100000 ∧ -100000 ≤ n) ∧ I 0 [] f1)
    (hw : ∀ x, wipe ((wipe σ vs).set j (some x)) vs = wipe σ vs)
    (hs : ∀ (i : Nat) (D : Addr) (acc : List V) (f : Fs), (i : Int) < n → I i acc f →
      WT tt ((wipe σ vs).set j (some (.int (i : Int)))) H0 ((D, .lst acc) :: f) fun b f2 =>
        (b = true → W te ((wipe σ vs).set j (some (.int (i : Int)))) H0 f2 fun v f3 => ∃ m, f3[m]? = some (D, .lst acc) ∧ I (i + 1) (acc ++ [v]) (f3.eraseIdx m)) ∧
        (b = false → ∃ m, f2[m]? = some (D, .lst acc) ∧ I (i + 1) acc (f2.eraseIdx m)))
    (hd : ∀ D acc f, I n.toNat acc f → Φ (.ref D) ((D, .lst acc) :: f)) : W (tLc (iRng1 ta) (gName j) tt te vs) σ H0 fs Φ := fun H k Q c =>
  h H k _ fun us f1 H1 k1 ⟨e, hn, h0⟩ => by
    refine ⟨n, e, by omega, by omega, fun D hD => ?_⟩
    refine lc_range (lo := 0) (n := n.toNat) (fun i H' => ∃ acc f, Kn H0 ((D, .lst acc) :: f) H' ∧ I i acc f ∧ acc.length ≤ i) ⟨[], f1, k1.new hD, h0, Nat.le_refl _⟩ (fun i H' hlt ⟨acc, f, p, hi, hlen⟩ => ?_) (fun H' ⟨acc, f, p, hi, _⟩ => c _ _ _ p (hd D acc f hi))
    have e0 : (0 : Int) + (i : Int) = (i : Int) := Int.zero_add _
    refine ⟨hw _, ?_⟩
    show tt ((wipe σ vs).set j (some (.int ((0 : Int) + (i : Int))))) H' _
    rw [e0]
    refine hs i D acc f (by omega) hi H' p _ fun b f2 H2 k2 ⟨ht, hf⟩ => ?_
    cases b with
    | true =>
      show te _ _ _
      refine ht rfl H2 k2 _ fun v f3 H3 k3 ⟨m, hm, hI⟩ => ?_
      have k4 := k3.front hm
      refine ⟨acc, k4.get (.head _), sz_lt (by omega), acc ++ [v], f3.eraseIdx m, k4.put (i := 0) rfl, hI, by simp; omega⟩
    | false =>
      obtain ⟨m, hm, hI⟩ := hf rfl
      exact ⟨acc, _, k2.front hm, hI, by omega⟩
/-- whole numbers that pass a test -/
theorem W.lcZf {ns : List Int} {j : Nat} {vs : List Nat} (p : Int → Bool)
    (h : W tl σ H0 fs fun v f1 => ∃ a, v = .ref a ∧ Rl K H0 f1 a (zV ns) ∧ ns.length ≤ 100000 ∧
      (∀ x, wipe ((wipe σ vs).set j (some x)) vs = wipe σ vs) ∧
      (∀ (x : Int) (D : Addr) (acc : List V), x ∈ ns → WT tt ((wipe σ vs).set j (some (.int x))) H0 ((D, .lst acc) :: f1) fun b f2 => b = p x ∧ f2 = (D, .lst acc) :: f1 ∧ (b = true → W te ((wipe σ vs).set j (some (.int x))) H0 f2 fun v f3 => v = .int x ∧ f3 = f2)) ∧
      ∀ D, Φ (.ref D) ((D, .lst (zV (ns.filter p))) :: f1)) : W (tLc (iList K tl) (gName j) tt te vs) σ H0 fs Φ := fun H k Q c =>
  h H k _ fun v f1 H1 k1 ⟨a, e, hr, hn, hw, hs, hd⟩ => by
    refine ⟨a, e, ⟨_, hr H1 k1⟩, fun D hD => ?_⟩
    refine lc_list (K := K) (a := a) (xs := zV ns) (fun i H' => Kn H0 ((D, .lst (zV ((ns.take i).filter p))) :: f1) H') (k1.new hD) (fun i H' _ p => hr H' p.drop) (fun i x H' hi q => ?_) (fun H' q => ?_)
    · obtain ⟨hl, e1⟩ := List.getElem?_eq_some_iff.mp hi
      rw [zV_length] at hl
      have e2 : x = .int ns[i] := by
        have := zV_get (ns := ns) (i := i) (x := ns[i]) (List.getElem?_eq_getElem hl)
        rw [hi] at this
        exact Option.some.inj this
      subst e2
      refine ⟨hw _, ?_⟩
      show tt ((wipe σ vs).set j (some (.int ns[i]))) H' _
      have hlen : ((ns.take i).filter p).length ≤ i := Nat.le_trans (List.length_filter_le _ _) (by rw [List.length_take]; omega)
      refine hs ns[i] D _ (List.getElem_mem hl) H' q _ fun b f2 H2 k2 ⟨eb, ef, ht⟩ => ?_
      subst eb ef
      have et : ns.take (i + 1) = ns.take i ++ [ns[i]] := by
        rw [List.take_add_one, List.getElem?_eq_getElem hl]; rfl
      cases hb : p ns[i] with
      | true =>
        show te _ _ _
        refine ht hb H2 k2 _ fun v f3 H3 k3 ⟨ev, ef⟩ => ?_
        subst ev ef
        refine ⟨_, k3.get (.head _), sz_lt (by rw [zV_length]; omega), ?_⟩
        have k4 := k3.put (i := 0) (o' := .lst (zV ((ns.take i).filter p) ++ [.int ns[i]])) rfl
        rw [et, List.filter_append, List.filter_cons_of_pos hb, ← zV_app]
        exact k4
      | false =>
        show Kn H0 ((D, .lst (zV ((ns.take (i + 1)).filter p))) :: f1) H2
        rw [et, List.filter_append, List.filter_cons_of_neg (by rw [hb]; exact Bool.false_ne_true), List.filter_nil, List.append_nil]
        exact k2
    · rw [zV_length, List.take_length] at q
      exact c _ _ _ q (hd D)
end
end Pa
namespace Pa
open PySem PySem.Spec PyProof.Rows L2
theorem ix_listK {X : Cx} {K : PySem.W.Frag} (h : X.K = K) : IxR X (rIxL K) := by subst h; exact ix_list
theorem ix_tupK {X : Cx} {K : PySem.W.Frag} (h : X.K = K) : IxR X (rIxT K) := by subst h; exact ix_tup
theorem N.swap {e : St → Hp → Prop} {σ : St} {H0 : Hp} {x y : Addr × HO} {fs : Fs} (h : N e σ H0 (y :: x :: fs)) : N e σ H0 (x :: y :: fs) := fun H k => h H k.swap
/-! ### is None -/
def rIsNon : R2 := fun x y H Q => y = .non ∧ Q (.bl (decide (x = .non))) H
def rNotNon : R2 := fun x y H Q => y = .non ∧ Q (.bl (!decide (x = .non))) H
theorem op_isNo {X : Cx} : OpR X (compareOp .Is) rIsNon := op_isN
theorem op_notNo {X : Cx} : OpR X (compareOp .IsNot) rNotNon := op_notN
section
variable {H0 : Hp} {fs : Fs} {Φ : CV} {p : Addr}
theorem RW.isNoR (q : Φ (.bl false) fs) : RW rIsNon (.ref p) .non H0 fs Φ := fun H k _ c => ⟨rfl, c _ fs H k q⟩
theorem RW.isNoN (q : Φ (.bl true) fs) : RW rIsNon .non .non H0 fs Φ := fun H k _ c => ⟨rfl, c _ fs H k q⟩
theorem RW.notNoR (q : Φ (.bl true) fs) : RW rNotNon (.ref p) .non H0 fs Φ := fun H k _ c => ⟨rfl, c _ fs H k q⟩
theorem RW.notNoN (q : Φ (.bl false) fs) : RW rNotNon .non .non H0 fs Φ := fun H k _ c => ⟨rfl, c _ fs H k q⟩
end
end Pa

namespace Pa

/-! ### rows of numbers without end, as a ring -/
def Ser : Type := Nat → Int
namespace Ser
@[ext] theorem ext {f g : Ser} (h : ∀ n, f n = g n) : f = g := funext h
def tail (f : Ser) : Ser := fun n => f (n + 1)
def sm (a : Int) (f : Ser) : Ser := fun n => a * f n
def mulC (f g : Ser) : Nat → Int
  | 0 => f 0 * g 0
  | n + 1 => f 0 * g (n + 1) + mulC (tail f) g n
def mul (f g : Ser) : Ser := fun n => mulC f g n
def C (a : Int) : Ser := fun n => if n = 0 then a else 0
instance : Zero Ser := ⟨C 0⟩
instance : One Ser := ⟨C 1⟩
instance : Add Ser := ⟨fun f g n => f n + g n⟩
instance : Neg Ser := ⟨fun f n => -f n⟩
instance : Sub Ser := ⟨fun f g n => f n - g n⟩
instance : Mul Ser := ⟨mul⟩
instance : NatCast Ser := ⟨fun n => C n⟩
instance : IntCast Ser := ⟨fun n => C n⟩
instance : SMul Nat Ser := ⟨fun k f => sm (k : Int) f⟩
instance : SMul Int Ser := ⟨fun k f => sm k f⟩
instance (n : Nat) : OfNat Ser n := ⟨C n⟩
def npow (f : Ser) : Nat → Ser
  | 0 => 1
  | n + 1 => npow f n * f
instance : HPow Ser Nat Ser := ⟨npow⟩
theorem C_zero (a : Int) : C a 0 = a := rfl
theorem C_succ (a : Int) (n : Nat) : C a (n + 1) = 0 := rfl
theorem zero_at (n : Nat) : (0 : Ser) n = 0 := by
  cases n with
  | zero => rfl
  | succ n => rfl
theorem add_at (f g : Ser) (n : Nat) : (f + g) n = f n + g n := rfl
theorem neg_at (f : Ser) (n : Nat) : (-f) n = -f n := rfl
theorem sub_at (f g : Ser) (n : Nat) : (f - g) n = f n - g n := rfl
theorem sm_at (a : Int) (f : Ser) (n : Nat) : (sm a f) n = a * f n := rfl
theorem tail_at (f : Ser) (n : Nat) : tail f n = f (n + 1) := rfl
theorem mul_zero_at (f g : Ser) : (f * g) 0 = f 0 * g 0 := rfl
theorem mul_succ_at (f g : Ser) (n : Nat) : (f * g) (n + 1) = f 0 * g (n + 1) + (tail f * g) n := rfl
theorem tail_add (f g : Ser) : tail (f + g) = tail f + tail g := rfl
theorem tail_sm (a : Int) (f : Ser) : tail (sm a f) = sm a (tail f) := rfl
theorem tail_mul (f g : Ser) : tail (f * g) = sm (f 0) (tail g) + tail f * g := rfl
theorem tail_C (a : Int) : tail (C a) = 0 := ext fun n => by rw [zero_at]; rfl
theorem tail_zero : tail 0 = 0 := tail_C 0
theorem zero_mul_at (g : Ser) (n : Nat) : ((0 : Ser) * g) n = 0 := by
  induction n with
  | zero => rw [mul_zero_at, zero_at, Int.zero_mul]
  | succ n ih => rw [mul_succ_at, zero_at, Int.zero_mul, tail_zero, ih]; rfl
theorem add_mul_at (f g h : Ser) (n : Nat) : ((f + g) * h) n = (f * h) n + (g * h) n := by
  induction n generalizing f g with
  | zero => rw [mul_zero_at, mul_zero_at, mul_zero_at, add_at, Int.add_mul]
  | succ n ih => rw [mul_succ_at, mul_succ_at, mul_succ_at, tail_add, ih, add_at, Int.add_mul]; omega
theorem sm_mul_at (a : Int) (f h : Ser) (n : Nat) : (sm a f * h) n = a * (f * h) n := by
  induction n generalizing f with
  | zero => rw [mul_zero_at, mul_zero_at, sm_at, Int.mul_assoc]
  | succ n ih => rw [mul_succ_at, mul_succ_at, tail_sm, ih, sm_at, Int.mul_assoc, Int.mul_add]
/-- the other recursion -/
theorem mul_succ_at' (f g : Ser) (n : Nat) : (f * g) (n + 1) = (f * tail g) n + f (n + 1) * g 0 := by
  induction n generalizing f with
  | zero => rw [mul_succ_at, mul_zero_at, mul_zero_at]; rfl
  | succ n ih =>
    rw [mul_succ_at, ih (tail f), mul_succ_at f (tail g), tail_at, tail_at]
    omega
theorem mul_comm_at (f g : Ser) (n : Nat) : (f * g) n = (g * f) n := by
  induction n generalizing f g with
  | zero => rw [mul_zero_at, mul_zero_at]; exact Int.mul_comm _ _
  | succ n ih =>
    rw [mul_succ_at' g f, ← ih (tail f) g, mul_succ_at, Int.mul_comm (f 0), Int.add_comm]
theorem mul_comm' (f g : Ser) : f * g = g * f := ext fun n => mul_comm_at f g n
theorem mul_assoc' (f g h : Ser) : f * g * h = f * (g * h) := by
  refine ext fun n => ?_
  induction n generalizing f with
  | zero => rw [mul_zero_at, mul_zero_at, mul_zero_at, mul_zero_at, Int.mul_assoc]
  | succ n ih =>
    rw [mul_succ_at, tail_mul, add_mul_at, sm_mul_at, ih (tail f), mul_succ_at f, mul_succ_at g, mul_zero_at, Int.mul_add, Int.mul_assoc]
    omega
theorem C_mul (a : Int) (f : Ser) (n : Nat) : (C a * f) n = a * f n := by
  cases n with
  | zero => rfl
  | succ n => rw [mul_succ_at, C_zero, tail_C, zero_mul_at, Int.add_zero]
theorem one_mul' (f : Ser) : 1 * f = f := ext fun n => by
  show (C 1 * f) n = f n
  rw [C_mul, Int.one_mul]
theorem one_eq : (1 : Ser) = C 1 := rfl
theorem zero_eq : (0 : Ser) = C 0 := rfl
theorem C_add (a b : Int) : C (a + b) = C a + C b := ext fun n => by
  cases n with
  | zero => rfl
  | succ n => rfl
theorem C_neg (a : Int) : C (-a) = -C a := ext fun n => by
  cases n with
  | zero => rfl
  | succ n => rfl
theorem C_sub (a b : Int) : C (a - b) = C a - C b := ext fun n => by
  cases n with
  | zero => rfl
  | succ n => rfl
theorem C_mulC (a b : Int) : C (a * b) = C a * C b := ext fun n => by
  rw [C_mul]
  cases n with
  | zero => rfl
  | succ n => rw [C_succ, C_succ, Int.mul_zero]
theorem C_inj {a b : Int} (h : C a = C b) : a = b := congrFun h 0
theorem sm_eq (a : Int) (f : Ser) : sm a f = C a * f := ext fun n => (C_mul a f n).symm
instance : Lean.Grind.CommRing Ser where
  add_zero f := ext fun n => by rw [add_at, zero_at, Int.add_zero]
  add_comm f g := ext fun n => Int.add_comm _ _
  add_assoc f g h := ext fun n => Int.add_assoc _ _ _
  mul_assoc := mul_assoc'
  mul_one f := by rw [mul_comm']; exact one_mul' f
  one_mul := one_mul'
  left_distrib f g h := by
    rw [mul_comm', mul_comm' f g, mul_comm' f h]
    exact ext fun n => add_mul_at g h f n
  right_distrib f g h := ext fun n => add_mul_at f g h n
  zero_mul f := ext fun n => by rw [zero_at, zero_mul_at]
  mul_zero f := by
    rw [mul_comm']
    exact ext fun n => by rw [zero_at, zero_mul_at]
  pow_zero f := rfl
  pow_succ f n := rfl
  nsmul_eq_natCast_mul k f := sm_eq k f
  ofNat_succ k := by
    show C ((k + 1 : Nat) : Int) = C (k : Int) + C 1
    rw [← C_add]; rfl
  ofNat_eq_natCast k := rfl
  neg_add_cancel f := ext fun n => by rw [add_at, neg_at, zero_at, Int.add_left_neg]
  sub_eq_add_neg f g := ext fun n => rfl
  neg_zsmul i f := ext fun n => Int.neg_mul _ _
  zsmul_natCast_eq_nsmul k f := rfl
  intCast_ofNat k := rfl
  intCast_neg k := C_neg k
  mul_comm := mul_comm'

example (a b : Ser) : (a + b) * (a - b) = a * a - b * b := by grind
example (a b c d : Ser) (h : a * b = c) (h2 : c = d * a) : a * b * b = d * a * b := by grind
end Ser
end Pa

namespace Pa
open Ser

/-! ### rows as series -/
def S (xs : List Int) : Ser := fun i => xs.getD i 0
theorem S_at (xs : List Int) (i : Nat) : S xs i = xs.getD i 0 := rfl
theorem S_out {xs : List Int} {i : Nat} (h : xs.length ≤ i) : S xs i = 0 := by
  rw [S_at, List.getD_eq_getElem?_getD, List.getElem?_eq_none h]; rfl
theorem S_nil : S [] = 0 := Ser.ext fun n => by rw [S_at, zero_at]; rfl
theorem getD_app_zeros (xs : List Int) (k i : Nat) : (xs ++ List.replicate k 0).getD i 0 = xs.getD i 0 := by
  rw [List.getD_eq_getElem?_getD, List.getD_eq_getElem?_getD, List.getElem?_append]
  split
  · rfl
  · rename_i h
    rw [List.getElem?_eq_none (by omega : xs.length ≤ i), List.getElem?_replicate]
    split <;> rfl
theorem S_trim (xs : List Int) : S (trim xs) = S xs := Ser.ext fun n => by
  obtain ⟨k, e, _⟩ := trim_cases xs
  rw [S_at, S_at]
  conv => rhs; rw [e]
  rw [getD_app_zeros]
theorem getD_map_range (n : Nat) (f : Nat → Int) (i : Nat) : ((List.range n).map f).getD i 0 = if i < n then f i else 0 := by
  rw [List.getD_eq_getElem?_getD, List.getElem?_map]
  by_cases h : i < n
  · rw [if_pos h, List.getElem?_range h]; rfl
  · rw [if_neg h, List.getElem?_eq_none (by simp; omega)]; rfl
theorem S_plus (xs ys : List Int) : S (plus xs ys) = S xs + S ys := by
  unfold plus
  rw [S_trim]
  refine Ser.ext fun n => ?_
  rw [S_at, getD_map_range, add_at]
  split
  · rw [gat_nat, gat_nat]; rfl
  · rw [S_out (by omega), S_out (by omega)]; rfl
theorem S_minus (xs ys : List Int) : S (minus xs ys) = S xs - S ys := by
  unfold minus
  rw [S_trim]
  refine Ser.ext fun n => ?_
  rw [S_at, getD_map_range, sub_at]
  split
  · rw [gat_nat, gat_nat]; rfl
  · rw [S_out (by omega), S_out (by omega)]; rfl
theorem S_map_mul (xs : List Int) (m : Int) : S (xs.map fun x => m * x) = C m * S xs := Ser.ext fun n => by
  rw [S_at, C_mul, S_at, List.getD_eq_getElem?_getD, List.getD_eq_getElem?_getD, List.getElem?_map]
  cases xs[n]? with
  | none => exact (Int.mul_zero m).symm
  | some x => rfl
theorem S_scaled (xs : List Int) (m : Int) : S (scaled xs m) = C m * S xs := by
  unfold scaled
  rw [S_trim, S_map_mul]
/-- the letter -/
def X : Ser := fun n => if n = 1 then 1 else 0
theorem tail_X : tail X = 1 := Ser.ext fun n => by
  cases n with
  | zero => rfl
  | succ n => rfl
theorem X_mul_zero (f : Ser) : (X * f) 0 = 0 := by rw [mul_zero_at]; exact Int.zero_mul _
theorem X_mul_succ (f : Ser) (n : Nat) : (X * f) (n + 1) = f n := by
  rw [mul_succ_at, tail_X, one_mul', show X 0 = 0 from rfl, Int.zero_mul, Int.zero_add]
theorem S_cons (a : Int) (r : List Int) : S (a :: r) = C a + X * S r := Ser.ext fun n => by
  cases n with
  | zero => rw [add_at, X_mul_zero]; exact (Int.add_zero a).symm
  | succ n => rw [add_at, X_mul_succ, C_succ, Int.zero_add]; rfl
theorem S_one (a : Int) : S [a] = C a := by
  rw [S_cons, S_nil]; grind
theorem X_pow_mul (j : Nat) (f : Ser) (i : Nat) : (X ^ j * f) i = if j ≤ i then f (i - j) else 0 := by
  induction j generalizing i with
  | zero =>
    have : X ^ 0 * f = f := by grind
    rw [this, if_pos (Nat.zero_le _)]; rfl
  | succ j ih =>
    have : X ^ (j + 1) * f = X * (X ^ j * f) := by grind
    rw [this]
    cases i with
    | zero => rw [X_mul_zero, if_neg (by omega)]
    | succ i =>
      rw [X_mul_succ, ih]
      by_cases h : j ≤ i
      · rw [if_pos h, if_pos (by omega), Nat.add_sub_add_right]
      · rw [if_neg h, if_neg (by omega)]
theorem S_app (xs ys : List Int) : S (xs ++ ys) = S xs + X ^ xs.length * S ys := by
  induction xs with
  | nil =>
    show S ys = S [] + X ^ 0 * S ys
    rw [S_nil]; grind
  | cons a r ih =>
    rw [List.cons_append, S_cons, ih, S_cons, List.length_cons]
    grind
theorem S_snoc (xs : List Int) (a : Int) : S (xs ++ [a]) = S xs + C a * X ^ xs.length := by
  rw [S_app, S_one]; grind
theorem S_take_succ {xs : List Int} {n : Nat} (h : n < xs.length) : S (xs.take (n + 1)) = S (xs.take n) + C (xs.getD n 0) * X ^ n := by
  rw [take_succ_getD h, S_snoc, List.length_take, Nat.min_eq_left (Nat.le_of_lt h)]

theorem S_set {acc : List Int} {i : Nat} (h : i < acc.length) (v : Int) : S (acc.set i (acc.getD i 0 + v)) = S acc + C v * X ^ i := Ser.ext fun n => by
  rw [S_at, getD_set, add_at, C_mul]
  have e : (X ^ i : Ser) = X ^ i * 1 := by grind
  rw [e, X_pow_mul]
  by_cases hn : i = n
  · subst hn
    rw [if_pos rfl, if_pos h, if_pos (Nat.le_refl _), Nat.sub_self]
    show _ = _ + v * 1
    rw [Int.mul_one]; rfl
  · rw [if_neg hn]
    by_cases hl : i ≤ n
    · rw [if_pos hl]
      obtain ⟨k, hk⟩ : ∃ k, n - i = k + 1 := ⟨n - i - 1, by omega⟩
      rw [hk]
      show _ = _ + v * 0
      rw [Int.mul_zero, Int.add_zero]; rfl
    · rw [if_neg hl, Int.mul_zero, Int.add_zero]; rfl
theorem S_row {x : Int} {ys : List Int} {j : Nat} {acc : List Int} : ∀ n : Nat, n ≤ ys.length → j + n ≤ acc.length → S (lp (tmIn x ys j) n acc) = S acc + C x * X ^ j * S (ys.take n)
  | 0, _, _ => by
    show S acc = _
    rw [List.take_zero, S_nil]; grind
  | n + 1, h1, h2 => by
    have ih := S_row (x := x) (ys := ys) (j := j) (acc := acc) n (by omega) (by omega)
    show S ((lp (tmIn x ys j) n acc).set (j + n) ((lp (tmIn x ys j) n acc).getD (j + n) 0 + x * ys.getD n 0)) = _
    rw [S_set (by rw [lp_len (fun i a => tmIn_len _ _ _ _ _)]; omega), ih, S_take_succ (by omega), C_mulC]
    have e : (X ^ (j + n) : Ser) = X ^ j * X ^ n := by grind
    rw [e]
    grind
theorem S_zeros (n : Nat) : S (List.replicate n 0) = 0 := Ser.ext fun i => by rw [S_at, getD_replicate, zero_at]
theorem S_raw {xs ys : List Int} : ∀ n : Nat, n ≤ xs.length → S (lp (tmRow xs ys) n (List.replicate (xs.length + ys.length) 0)) = S (xs.take n) * S ys
  | 0, _ => by
    show S (List.replicate (xs.length + ys.length) 0) = _
    rw [S_zeros, List.take_zero, S_nil]; grind
  | n + 1, h => by
    have ih := S_raw (xs := xs) (ys := ys) n (by omega)
    show S (lp (tmIn (xs.getD n 0) ys n) ys.length _) = _
    rw [S_row ys.length (Nat.le_refl _) (by rw [lp_len (fun i a => tmRow_len _ _ _ _), List.length_replicate]; omega), ih, S_take_succ (by omega), List.take_length]
    grind
theorem S_tm (xs ys : List Int) : S (tm xs ys) = S xs * S ys := by
  unfold tm
  rw [S_trim]
  unfold tmRaw
  rw [S_raw xs.length (Nat.le_refl _), List.take_length]
theorem S_pw (xs : List Int) : ∀ n : Nat, S (pw xs n) = S xs ^ n
  | 0 => by
    show S [1] = _
    rw [S_one, ← one_eq]; grind
  | n + 1 => by
    show S (tm (pw xs n) xs) = _
    rw [S_tm, S_pw xs n]; grind
/-- trimmed rows are told by their series -/
theorem S_inj {xs ys : List Int} (hx : Tr xs) (hy : Tr ys) (h : S xs = S ys) : xs = ys := by
  have key : ∀ {xs ys : List Int}, Tr xs → S xs = S ys → xs.length ≤ ys.length := fun {xs ys} hx h => by
    rcases snoc_cases xs with rfl | ⟨zs, z, rfl⟩
    · exact Nat.zero_le _
    · refine Nat.le_of_not_lt fun hl => ?_
      rw [List.length_append, List.length_singleton] at hl
      have hz := tr_last hx (by simp)
      rw [List.getLast_append] at hz
      have e := congrFun h zs.length
      rw [S_out (xs := ys) (by omega), S_at, List.getD_eq_getElem?_getD] at e
      simp at e hz
      exact hz e
  have l1 := key hx h
  have l2 := key hy h.symm
  refine List.ext_getElem (Nat.le_antisymm l1 l2) fun i h1 h2 => ?_
  have e := congrFun h i
  rw [S_at, S_at, List.getD_eq_getElem?_getD, List.getD_eq_getElem?_getD, List.getElem?_eq_getElem h1, List.getElem?_eq_getElem h2] at e
  exact e
theorem tm_comm (xs ys : List Int) : tm xs ys = tm ys xs := S_inj (tm_tr _ _) (tm_tr _ _) (by rw [S_tm, S_tm]; grind)
theorem plus_tr (xs ys : List Int) : Tr (plus xs ys) := tr_trim _
theorem minus_tr (xs ys : List Int) : Tr (minus xs ys) := tr_trim _
theorem scaled_tr (xs : List Int) (m : Int) : Tr (scaled xs m) := tr_trim _
theorem S_zero_nil {xs : List Int} (hx : Tr xs) (h : S xs = 0) : xs = [] := S_inj hx tr_nil (by rw [h, S_nil])

/-! ### one in the other's letter -/
def pin (ys : List Int) : List Int → List Int
  | [] => []
  | a :: r => plus (tm (pin ys r) ys) [a]
def sub (G : Ser) : List Int → Ser
  | [] => 0
  | a :: r => C a + sub G r * G
theorem S_pin (ys : List Int) : ∀ xs : List Int, S (pin ys xs) = sub (S ys) xs
  | [] => S_nil
  | a :: r => by
    show S (plus (tm (pin ys r) ys) [a]) = C a + sub (S ys) r * S ys
    rw [S_plus, S_tm, S_one, S_pin ys r]; grind
theorem sub_snoc (G : Ser) (xs : List Int) (a : Int) : sub G (xs ++ [a]) = sub G xs + C a * G ^ xs.length := by
  induction xs with
  | nil =>
    show C a + 0 * G = 0 + C a * G ^ 0
    grind
  | cons b r ih =>
    show C b + sub G (r ++ [a]) * G = C b + sub G r * G + C a * G ^ (r.length + 1)
    rw [ih]; grind
theorem pin_tr (ys : List Int) : ∀ xs : List Int, Tr (pin ys xs)
  | [] => tr_nil
  | a :: r => plus_tr _ _
theorem pin_len (ys : List Int) : ∀ xs : List Int, (pin ys xs).length ≤ xs.length * (ys.length + 1)
  | [] => Nat.zero_le _
  | a :: r => by
    have ih := pin_len ys r
    have h1 := plus_len (tm (pin ys r) ys) [a]
    have h2 := tm_len (pin ys r) ys
    show (plus (tm (pin ys r) ys) [a]).length ≤ (r.length + 1) * (ys.length + 1)
    rw [Nat.succ_mul]
    simp only [List.length_singleton] at h1
    omega
theorem pin_bd {ys : List Int} {a b c : Nat} (hy : BdL b ys) : ∀ xs : List Int, BdL a xs → xs.length * (ys.length + 1) ≤ 2 ^ c → BdL (a + xs.length * (b + c + 1)) (pin ys xs)
  | [], _, _ => BdL.nil
  | x :: r, hx, hl => by
    have hl' : (r.length + 1) * (ys.length + 1) ≤ 2 ^ c := hl
    rw [Nat.succ_mul] at hl'
    have ih := pin_bd (a := a) (c := c) hy r (fun y h => hx y (List.mem_cons_of_mem _ h)) (by omega)
    have h1 := tm_bd (c := c) ih hy (by have := pin_len ys r; omega)
    have h2 : BdL a [x] := fun y h => hx y (by rw [List.mem_singleton.mp h]; exact List.mem_cons_self)
    have h3 := plus_bd h1 (h2.mono (show a ≤ a + r.length * (b + c + 1) + b + c by omega))
    refine h3.mono ?_
    show _ ≤ a + (r.length + 1) * (b + c + 1)
    rw [Nat.succ_mul]; omega
/-! ### the law's own way of adding up -/
def due (ys : List Int) : Nat → List Int → List Int × List Int
  | 0, _ => ([], [1])
  | n + 1, xs => (plus (due ys n xs).1 (tm [xs.getD n 0] (due ys n xs).2), tm (due ys n xs).2 ys)
theorem due_pw (ys : List Int) (xs : List Int) : ∀ n, (due ys n xs).2 = pw ys n
  | 0 => rfl
  | n + 1 => by
    show tm (due ys n xs).2 ys = tm (pw ys n) ys
    rw [due_pw]
theorem S_due (ys xs : List Int) : ∀ n, n ≤ xs.length → S (due ys n xs).1 = sub (S ys) (xs.take n)
  | 0, _ => by rw [List.take_zero]; exact S_nil
  | n + 1, h => by
    show S (plus (due ys n xs).1 (tm [xs.getD n 0] (due ys n xs).2)) = _
    rw [S_plus, S_tm, S_one, due_pw, S_pw, S_due ys xs n (by omega), take_succ_getD (by omega), sub_snoc, List.length_take, Nat.min_eq_left (by omega)]
theorem due_tr (ys xs : List Int) (n : Nat) : Tr (due ys n xs).1 := by
  cases n with
  | zero => exact tr_nil
  | succ n => exact plus_tr _ _
theorem due_eq (ys xs : List Int) : (due ys xs.length xs).1 = pin ys xs := S_inj (due_tr _ _ _) (pin_tr _ _) (by rw [S_due _ _ _ (Nat.le_refl _), List.take_length, S_pin])
end Pa

namespace Pa
open Ser

/-! ### what divides all numbers of a row -/
def cont : List Int → Nat
  | [] => 0
  | a :: r => Nat.gcd a.natAbs (cont r)
theorem cont_app (xs ys : List Int) : cont (xs ++ ys) = Nat.gcd (cont xs) (cont ys) := by
  induction xs with
  | nil => exact (Nat.gcd_zero_left _).symm
  | cons a r ih =>
    show Nat.gcd a.natAbs (cont (r ++ ys)) = Nat.gcd (Nat.gcd a.natAbs (cont r)) (cont ys)
    rw [ih, Nat.gcd_assoc]
theorem cont_snoc (xs : List Int) (x : Int) : cont (xs ++ [x]) = Nat.gcd (cont xs) x.natAbs := by
  rw [cont_app]
  show Nat.gcd _ (Nat.gcd x.natAbs 0) = _
  rw [Nat.gcd_zero_right]
theorem cont_dvd {xs : List Int} {x : Int} (h : x ∈ xs) : (cont xs : Int) ∣ x := by
  refine Int.ofNat_dvd_left.mpr ?_
  induction xs with
  | nil => exact absurd h List.not_mem_nil
  | cons a r ih =>
    rcases List.mem_cons.mp h with rfl | h
    · exact Nat.gcd_dvd_left _ _
    · exact Nat.dvd_trans (Nat.gcd_dvd_right _ _) (ih h)
theorem dvd_cont {xs : List Int} {d : Nat} (h : ∀ x ∈ xs, (d : Int) ∣ x) : d ∣ cont xs := by
  induction xs with
  | nil => exact Nat.dvd_zero d
  | cons a r ih => exact Nat.dvd_gcd (Int.ofNat_dvd_left.mp (h a List.mem_cons_self)) (ih fun x hx => h x (List.mem_cons_of_mem _ hx))
theorem cont_zero {xs : List Int} (h : cont xs = 0) : ∀ x ∈ xs, x = 0 := fun x hx => by
  have := cont_dvd hx
  rw [h] at this
  exact Int.zero_dvd.mp this
theorem cont_pos {xs : List Int} (ht : Tr xs) (hne : xs ≠ []) : 0 < cont xs :=
  Nat.pos_of_ne_zero fun z => tr_last ht hne (cont_zero z _ (List.getLast_mem hne))
theorem cont_le {xs : List Int} {x : Int} (h : x ∈ xs) (h0 : x ≠ 0) : cont xs ≤ x.natAbs :=
  Nat.le_of_dvd (Int.natAbs_pos.mpr h0) (Int.ofNat_dvd_left.mp (cont_dvd h))
theorem cont_bd {b : Nat} {xs : List Int} (h : BdL b xs) : cont xs < 2 ^ b := by
  induction xs with
  | nil => exact Nat.two_pow_pos b
  | cons a r ih =>
    by_cases h0 : a = 0
    · subst h0
      show Nat.gcd 0 (cont r) < _
      rw [Nat.gcd_zero_left]
      exact ih fun x hx => h x (List.mem_cons_of_mem _ hx)
    · exact Nat.lt_of_le_of_lt (cont_le List.mem_cons_self h0) (h a List.mem_cons_self)
/-- its sign as the last number's -/
def sgc (xs : List Int) : Int := if xs.getLast?.getD 0 < 0 then -(cont xs : Int) else (cont xs : Int)
theorem sgc_abs (xs : List Int) : (sgc xs).natAbs = cont xs := by
  unfold sgc
  split <;> simp
theorem sgc_ne {xs : List Int} (ht : Tr xs) (hne : xs ≠ []) : sgc xs ≠ 0 := fun h => by
  have := sgc_abs xs
  rw [h] at this
  exact absurd this (Nat.ne_of_lt (cont_pos ht hne))
theorem sgc_dvd {xs : List Int} {x : Int} (h : x ∈ xs) : sgc xs ∣ x := by
  unfold sgc
  split
  · exact Int.neg_dvd.mpr (cont_dvd h)
  · exact cont_dvd h
def divBy (xs : List Int) (c : Int) : List Int := xs.map fun x => x.fdiv c
def simp' (xs : List Int) : List Int := divBy xs (sgc xs)
theorem fdiv_of_dvd {x c : Int} (hc : c ≠ 0) (h : c ∣ x) : c * x.fdiv c = x := by
  obtain ⟨k, rfl⟩ := h
  rw [Int.mul_fdiv_cancel_left k hc]
theorem divBy_map {xs : List Int} {c : Int} (hc : c ≠ 0) (h : ∀ x ∈ xs, c ∣ x) : (divBy xs c).map (fun x => c * x) = xs := by
  unfold divBy
  rw [List.map_map]
  conv => rhs; rw [← List.map_id xs]
  exact List.map_congr_left fun x hx => fdiv_of_dvd hc (h x hx)
theorem S_divBy {xs : List Int} {c : Int} (hc : c ≠ 0) (h : ∀ x ∈ xs, c ∣ x) : C c * S (divBy xs c) = S xs := by
  rw [← S_map_mul, divBy_map hc h]
theorem divBy_tr {xs : List Int} {c : Int} (hc : c ≠ 0) (h : ∀ x ∈ xs, c ∣ x) (ht : Tr xs) : Tr (divBy xs c) := by
  rcases snoc_cases xs with rfl | ⟨ys, y, rfl⟩
  · exact tr_nil
  · have hy : y ≠ 0 := by
      have := tr_last ht (by simp)
      simpa using this
    unfold divBy
    rw [List.map_append]
    refine tr_of_last fun z => hy ?_
    have z' : y.fdiv c = 0 := z
    rw [← fdiv_of_dvd hc (h y (by simp)), z', Int.mul_zero]
theorem divBy_len (xs : List Int) (c : Int) : (divBy xs c).length = xs.length := List.length_map _
theorem divBy_bd {b : Nat} {xs : List Int} {c : Int} (hc : c ≠ 0) (h : ∀ x ∈ xs, c ∣ x) (hb : BdL b xs) : BdL b (divBy xs c) := fun y hy => by
  obtain ⟨x, hx, rfl⟩ := List.mem_map.mp hy
  have e := fdiv_of_dvd hc (h x hx)
  refine Nat.lt_of_le_of_lt ?_ (hb x hx)
  rw [← e, Int.natAbs_mul, e]
  exact Nat.le_mul_of_pos_left _ (Int.natAbs_pos.mpr hc)
theorem cont_map_mul (xs : List Int) (c : Int) : cont (xs.map fun x => c * x) = c.natAbs * cont xs := by
  induction xs with
  | nil => rfl
  | cons a r ih =>
    show Nat.gcd (c * a).natAbs (cont (r.map fun x => c * x)) = c.natAbs * Nat.gcd a.natAbs (cont r)
    rw [ih, Int.natAbs_mul, Nat.gcd_mul_left]
theorem cont_divBy {xs : List Int} {c : Int} (hc : c ≠ 0) (h : ∀ x ∈ xs, c ∣ x) : c.natAbs * cont (divBy xs c) = cont xs := by
  rw [← cont_map_mul, divBy_map hc h]
theorem simp_nil : simp' [] = [] := rfl
theorem simp_tr {xs : List Int} (ht : Tr xs) : Tr (simp' xs) := by
  by_cases hne : xs = []
  · subst hne; exact tr_nil
  · exact divBy_tr (sgc_ne ht hne) (fun x hx => sgc_dvd hx) ht
theorem simp_cont {xs : List Int} (ht : Tr xs) (hne : xs ≠ []) : cont (simp' xs) = 1 := by
  have e := cont_divBy (sgc_ne ht hne) fun x hx => sgc_dvd (xs := xs) hx
  rw [sgc_abs] at e
  exact Nat.eq_of_mul_eq_mul_left (cont_pos ht hne) (by rw [Nat.mul_one]; exact e)
theorem S_simp {xs : List Int} (ht : Tr xs) : C (sgc xs) * S (simp' xs) = S xs := by
  by_cases hne : xs = []
  · subst hne
    show C 0 * S [] = S []
    rw [S_nil]; grind
  · exact S_divBy (sgc_ne ht hne) fun x hx => sgc_dvd hx
theorem simp_len (xs : List Int) : (simp' xs).length = xs.length := divBy_len _ _
theorem simp_bd {b : Nat} {xs : List Int} (ht : Tr xs) (hb : BdL b xs) : BdL b (simp' xs) := by
  by_cases hne : xs = []
  · subst hne; exact hb
  · exact divBy_bd (sgc_ne ht hne) (fun x hx => sgc_dvd hx) hb
theorem simp_ne {xs : List Int} (hne : xs ≠ []) : simp' xs ≠ [] := fun z => hne (List.length_eq_zero_iff.mp (by rw [← simp_len, z]; rfl))
/-- its last number is above nought -/
theorem simp_last {xs : List Int} (ht : Tr xs) (hne : xs ≠ []) : 0 < (simp' xs).getLast (simp_ne hne) := by
  rcases snoc_cases xs with rfl | ⟨ys, y, rfl⟩
  · exact absurd rfl hne
  · have hy : y ≠ 0 := by simpa using tr_last ht hne
    have e1 : (simp' (ys ++ [y])).getLast (simp_ne hne) = y.fdiv (sgc (ys ++ [y])) := by
      unfold simp' divBy
      simp only [List.map_append, List.map_cons, List.map_nil, List.getLast_append]
      simp
    have hp := cont_pos ht hne
    have hd : (cont (ys ++ [y]) : Int) ∣ y := cont_dvd (by simp)
    rw [e1]
    unfold sgc
    have e2 : (ys ++ [y]).getLast?.getD 0 = y := by simp
    rw [e2]
    obtain ⟨k, hk⟩ := hd
    generalize cont (ys ++ [y]) = c at hp hk
    have hc : (0 : Int) < (c : Int) := by omega
    subst hk
    split
    · rename_i hneg
      have e3 : (c : Int) * k = -(c : Int) * -k := (Int.neg_mul_neg _ _).symm
      rw [e3, Int.mul_fdiv_cancel_left _ (by omega)]
      have := Int.neg_of_mul_neg_right (a := (c : Int)) (b := k)
      have hk : k < 0 := by
        refine Int.not_le.mp fun hk => ?_
        have := Int.mul_nonneg (Int.le_of_lt hc) hk
        omega
      omega
    · rename_i hneg
      rw [Int.mul_fdiv_cancel_left _ (by omega)]
      refine Int.not_le.mp fun hk => ?_
      have := Int.mul_nonpos_of_nonneg_of_nonpos (Int.le_of_lt hc) hk
      omega
/-- made with the content above nought, then turned -/
theorem simp_eq {xs : List Int} (ht : Tr xs) (hne : xs ≠ []) : simp' xs = if (divBy xs (cont xs)).getLast?.getD 0 < 0 then (divBy xs (cont xs)).map (fun x => -x) else divBy xs (cont xs) := by
  have hp := cont_pos ht hne
  rcases snoc_cases xs with rfl | ⟨ys, y, rfl⟩
  · exact absurd rfl hne
  have hd : (cont (ys ++ [y]) : Int) ∣ y := cont_dvd (by simp)
  have e1 : (divBy (ys ++ [y]) (cont (ys ++ [y]))).getLast?.getD 0 = y.fdiv (cont (ys ++ [y])) := by
    unfold divBy
    rw [List.map_append]
    simp
  have e2 : (ys ++ [y]).getLast?.getD 0 = y := by simp
  have iff : y.fdiv (cont (ys ++ [y])) < 0 ↔ y < 0 := by
    obtain ⟨k, hk⟩ := hd
    have hc : (0 : Int) < (cont (ys ++ [y]) : Int) := by omega
    generalize cont (ys ++ [y]) = c at hp hk hc
    subst hk
    rw [Int.mul_fdiv_cancel_left _ (by omega)]
    constructor
    · intro hk
      exact Int.mul_neg_of_pos_of_neg hc hk
    · intro h
      refine Int.not_le.mp fun hk => ?_
      have := Int.mul_nonneg (Int.le_of_lt hc) hk
      omega
  rw [e1]
  unfold simp' sgc
  rw [e2]
  by_cases hy : y < 0
  · rw [if_pos hy, if_pos (iff.mpr hy)]
    unfold divBy
    rw [List.map_map]
    refine List.map_congr_left fun x hx => ?_
    obtain ⟨k, hk⟩ := cont_dvd hx
    show x.fdiv (-(cont (ys ++ [y]) : Int)) = -(x.fdiv (cont (ys ++ [y])))
    have hc : (cont (ys ++ [y]) : Int) ≠ 0 := by omega
    have e3 : (cont (ys ++ [y]) : Int) * k = -(cont (ys ++ [y]) : Int) * -k := (Int.neg_mul_neg _ _).symm
    conv => rhs; rw [hk, Int.mul_fdiv_cancel_left _ hc]
    rw [hk, e3, Int.mul_fdiv_cancel_left _ (by omega)]
  · rw [if_neg hy, if_neg (fun h => hy (iff.mp h))]
end Pa

namespace Pa
open Ser

/-! ### division with a rest, without fractions -/
/-- nothing but 1 divides the number and the two rows -/
def CP (m : Int) (f r : Ser) : Prop := ∀ d : Nat, (d : Int) ∣ m → (∀ i, (d : Int) ∣ f i) → (∀ i, (d : Int) ∣ r i) → d = 1
theorem dvd_S {d : Int} {xs : List Int} (h : ∀ x ∈ xs, d ∣ x) (i : Nat) : d ∣ S xs i := by
  rw [S_at, List.getD_eq_getElem?_getD]
  cases e : xs[i]? with
  | none => exact Int.dvd_zero d
  | some x => exact h x (List.mem_of_getElem? e)
theorem dvd_of_S {d : Int} {xs : List Int} (h : ∀ i, d ∣ S xs i) : ∀ x ∈ xs, d ∣ x := fun x hx => by
  obtain ⟨i, hi, rfl⟩ := List.getElem_of_mem hx
  have := h i
  rw [S_at, List.getD_eq_getElem?_getD, List.getElem?_eq_getElem hi] at this
  exact this
theorem CP.gcd {m : Int} {q r : List Int} (h : CP m (S q) (S r)) : Nat.gcd m.natAbs (Nat.gcd (cont q) (cont r)) = 1 := by
  refine h _ (Int.ofNat_dvd_left.mpr (Nat.gcd_dvd_left _ _)) (dvd_S fun x hx => ?_) (dvd_S fun x hx => ?_)
  · exact Int.dvd_trans (Int.ofNat_dvd.mpr (Nat.dvd_trans (Nat.gcd_dvd_right _ _) (Nat.gcd_dvd_left _ _))) (cont_dvd hx)
  · exact Int.dvd_trans (Int.ofNat_dvd.mpr (Nat.dvd_trans (Nat.gcd_dvd_right _ _) (Nat.gcd_dvd_right _ _))) (cont_dvd hx)
/-- what a step multiplies by, and what it puts -/
def more (lc top : Int) : Int := (lc.natAbs : Int).fdiv (Nat.gcd lc.natAbs top.natAbs : Nat)
def putv (lc top : Int) : Int := (more lc top * top).fdiv lc
theorem step_facts {lc top : Int} (h1 : lc ≠ 0) (h2 : top ≠ 0) : 1 ≤ more lc top ∧ (more lc top).natAbs ≤ lc.natAbs ∧ putv lc top * lc = more lc top * top ∧ (putv lc top).natAbs ≤ top.natAbs ∧ Nat.gcd (more lc top).natAbs (putv lc top).natAbs = 1 := by
  have hg : 0 < Nat.gcd lc.natAbs top.natAbs := Nat.gcd_pos_of_pos_left _ (Int.natAbs_pos.mpr h1)
  obtain ⟨c, hc⟩ : ((Nat.gcd lc.natAbs top.natAbs : Nat) : Int) ∣ lc := Int.ofNat_dvd_left.mpr (Nat.gcd_dvd_left _ _)
  obtain ⟨u, hu⟩ : ((Nat.gcd lc.natAbs top.natAbs : Nat) : Int) ∣ top := Int.ofNat_dvd_left.mpr (Nat.gcd_dvd_right _ _)
  have hcu : Nat.gcd c.natAbs u.natAbs = 1 := by
    have e : Nat.gcd lc.natAbs top.natAbs * Nat.gcd c.natAbs u.natAbs = Nat.gcd lc.natAbs top.natAbs * 1 := by
      rw [← Nat.gcd_mul_left, Nat.mul_one]
      have a1 := congrArg Int.natAbs hc
      have a2 := congrArg Int.natAbs hu
      rw [Int.natAbs_mul, Int.natAbs_natCast] at a1 a2
      rw [← a1, ← a2]
    exact Nat.eq_of_mul_eq_mul_left hg e
  unfold putv more
  generalize Nat.gcd lc.natAbs top.natAbs = g at hg hc hu
  have hg0 : (g : Int) ≠ 0 := by omega
  have c0 : c ≠ 0 := fun z => h1 (by rw [hc, z, Int.mul_zero])
  have e1 : (lc.natAbs : Int).fdiv (g : Int) = (c.natAbs : Int) := by
    have a1 : (lc.natAbs : Int) = (g : Int) * (c.natAbs : Int) := by
      rw [hc, Int.natAbs_mul, Int.natAbs_natCast, Int.natCast_mul]
    rw [a1, Int.mul_fdiv_cancel_left _ hg0]
  rw [e1]
  have hcs : (c.natAbs : Int) = c * c.sign := by
    have := Int.sign_mul_natAbs c
    rcases Int.lt_trichotomy c 0 with h | h | h
    · rw [Int.sign_eq_neg_one_of_neg h]; omega
    · exact absurd h c0
    · rw [Int.sign_eq_one_of_pos h]; omega
  have e2 : ((c.natAbs : Int) * top).fdiv lc = c.sign * u := by
    have a2 : (c.natAbs : Int) * top = lc * (c.sign * u) := by
      rw [hcs, hu, hc]; grind
    rw [a2, Int.mul_fdiv_cancel_left _ h1]
  rw [e2]
  have sa : c.sign.natAbs = 1 := by
    rcases Int.lt_trichotomy c 0 with h | h | h
    · rw [Int.sign_eq_neg_one_of_neg h]; rfl
    · exact absurd h c0
    · rw [Int.sign_eq_one_of_pos h]; rfl
  refine ⟨by omega, ?_, ?_, ?_, ?_⟩
  · rw [hc, Int.natAbs_mul, Int.natAbs_natCast, Int.natAbs_natCast]
    exact Nat.le_mul_of_pos_left _ hg
  · rw [hcs, hu, hc]; grind
  · rw [Int.natAbs_mul, sa, Nat.one_mul, hu, Int.natAbs_mul, Int.natAbs_natCast]
    exact Nat.le_mul_of_pos_left _ hg
  · rw [Int.natAbs_natCast, Int.natAbs_mul, sa, Nat.one_mul]; exact hcu
theorem nat_dvd_of_coprime {d : Nat} {m x : Int} (h : Nat.gcd d m.natAbs = 1) (hd : (d : Int) ∣ m * x) : (d : Int) ∣ x := by
  rw [Int.ofNat_dvd_left] at hd ⊢
  rw [Int.natAbs_mul] at hd
  exact Nat.Coprime.dvd_of_dvd_mul_left h hd

/-- what holds behind t steps of n -/
structure DI (xs ys : List Int) (a b n t : Nat) (m : Int) (f r : List Int) : Prop where
  m1 : 1 ≤ m
  fl : f.length = n
  rl : r.length = xs.length
  eq : C m * S xs = S ys * S f + S r
  rz : ∀ i, n - t + ys.length ≤ i + 1 → S r i = 0
  fz : ∀ i, i < n - t → S f i = 0
  cp : CP m (S f) (S r)
  mb : Bd (t * b + 1) m
  fb : BdL (a + t * (b + 1)) f
  rb : BdL (a + t * (b + 1)) r
theorem DI.start {xs ys : List Int} {a b n : Nat} (hn : n = xs.length + 1 - ys.length) (ha : BdL a xs) : DI xs ys a b n 0 1 (List.replicate n 0) xs where
  m1 := Int.le_refl 1
  fl := List.length_replicate
  rl := rfl
  eq := by rw [S_zeros, ← one_eq]; grind
  rz := fun i hi => S_out (by omega)
  fz := fun i _ => by rw [S_zeros, zero_at]
  cp := fun d hd _ _ => Int.ofNat.inj (Int.eq_one_of_dvd_one (Int.natCast_nonneg d) hd)
  mb := by unfold Bd; rw [Nat.zero_mul]; decide
  fb := fun x hx => by rw [(List.mem_replicate.mp hx).2]; exact Bd.zero
  rb := ha.mono (by omega)
theorem DI.skip {xs ys : List Int} {a b n t : Nat} {m : Int} {f r : List Int} (h : DI xs ys a b n t m f r) (ht : t < n) (hy : 0 < ys.length) (h0 : S r (n - 1 - t + ys.length - 1) = 0) : DI xs ys a b n (t + 1) m f r where
  m1 := h.m1
  fl := h.fl
  rl := h.rl
  eq := h.eq
  rz := fun i hi => by
    by_cases e : n - t + ys.length ≤ i + 1
    · exact h.rz i e
    · have : i = n - 1 - t + ys.length - 1 := by omega
      rw [this]; exact h0
  fz := fun i hi => h.fz i (by omega)
  cp := h.cp
  mb := h.mb.mono (by rw [Nat.succ_mul]; omega)
  fb := h.fb.mono (by rw [Nat.succ_mul]; omega)
  rb := h.rb.mono (by rw [Nat.succ_mul]; omega)
theorem S_one_at (j i : Nat) (v : Int) : (C v * X ^ j : Ser) i = if i = j then v else 0 := by
  rw [C_mul]
  have e : (X ^ j : Ser) = X ^ j * 1 := by grind
  rw [e, X_pow_mul]
  by_cases h : i = j
  · subst h
    rw [if_pos (Nat.le_refl _), if_pos rfl, Nat.sub_self]
    exact Int.mul_one v
  · rw [if_neg h]
    by_cases hl : j ≤ i
    · rw [if_pos hl]
      obtain ⟨k, hk⟩ : ∃ k, i - j = k + 1 := ⟨i - j - 1, by omega⟩
      rw [hk]
      exact Int.mul_zero v
    · rw [if_neg hl, Int.mul_zero]
theorem C_X_at (v : Int) (j : Nat) (g : Ser) (i : Nat) : (C v * X ^ j * g : Ser) i = if j ≤ i then v * g (i - j) else 0 := by
  have e : (C v * X ^ j * g : Ser) = C v * (X ^ j * g) := by grind
  rw [e, C_mul, X_pow_mul]
  split
  · rfl
  · rw [Int.mul_zero]
/-- the rest behind a step -/
def sbIn (v : Int) (ys : List Int) (j k : Nat) (acc : List Int) : List Int := acc.set (j + k) (acc.getD (j + k) 0 - v * ys.getD k 0)
theorem sbIn_eq (v : Int) (ys : List Int) (j : Nat) : sbIn v ys j = tmIn (-v) ys j := by
  funext k acc
  unfold sbIn tmIn
  rw [Int.neg_mul, ← Int.sub_eq_add_neg]
theorem DI.step {xs ys : List Int} {a b n t : Nat} {m : Int} {f r : List Int} (h : DI xs ys a b n t m f r) (ht : t < n) (hn : n = xs.length + 1 - ys.length) (hy : 0 < ys.length) (hb : BdL b ys)
    (hlc : S ys (ys.length - 1) ≠ 0) (htop : S r (n - 1 - t + ys.length - 1) ≠ 0) :
    DI xs ys a b n (t + 1) (m * more (S ys (ys.length - 1)) (S r (n - 1 - t + ys.length - 1)))
      ((f.map fun x => more (S ys (ys.length - 1)) (S r (n - 1 - t + ys.length - 1)) * x).set (n - 1 - t) (putv (S ys (ys.length - 1)) (S r (n - 1 - t + ys.length - 1))))
      (lp (sbIn (putv (S ys (ys.length - 1)) (S r (n - 1 - t + ys.length - 1))) ys (n - 1 - t)) ys.length (r.map fun x => more (S ys (ys.length - 1)) (S r (n - 1 - t + ys.length - 1)) * x)) := by
  obtain ⟨f1, f2, f3, f4, f5⟩ := step_facts hlc htop
  have hlb : (S ys (ys.length - 1)).natAbs < 2 ^ b := hb.at _
  have htb : (S r (n - 1 - t + ys.length - 1)).natAbs < 2 ^ (a + t * (b + 1)) := h.rb.at _
  rw [sbIn_eq]
  generalize more (S ys (ys.length - 1)) (S r (n - 1 - t + ys.length - 1)) = mo at *
  generalize putv (S ys (ys.length - 1)) (S r (n - 1 - t + ys.length - 1)) = v at *
  have hpl : n - 1 - t < (f.map fun x => mo * x).length := by rw [List.length_map, h.fl]; omega
  have hf0 : (f.map fun x => mo * x).getD (n - 1 - t) 0 = 0 := by
    have := congrFun (S_map_mul f mo) (n - 1 - t)
    rw [C_mul, h.fz _ (by omega), Int.mul_zero] at this
    exact this
  have Sf : S ((f.map fun x => mo * x).set (n - 1 - t) v) = C mo * S f + C v * X ^ (n - 1 - t) := by
    have e : v = (f.map fun x => mo * x).getD (n - 1 - t) 0 + v := by rw [hf0, Int.zero_add]
    conv => lhs; rw [e]
    rw [S_set hpl, S_map_mul]
  have rlen : n - 1 - t + ys.length ≤ (r.map fun x => mo * x).length := by rw [List.length_map, h.rl]; omega
  have Sr : S (lp (tmIn (-v) ys (n - 1 - t)) ys.length (r.map fun x => mo * x)) = C mo * S r + C (-v) * X ^ (n - 1 - t) * S ys := by
    rw [S_row _ (Nat.le_refl _) rlen, S_map_mul, List.take_length]
  have hmob : Bd b mo := Nat.lt_of_le_of_lt f2 hlb
  have hvb : Bd (a + t * (b + 1)) v := Nat.lt_of_le_of_lt f4 htb
  refine ⟨?_, ?_, ?_, ?_, ?_, ?_, ?_, ?_, ?_, ?_⟩
  · have h1 : (0 : Int) < m := by have := h.m1; omega
    have h2 : (0 : Int) < mo := by omega
    have h3 := Int.mul_pos h1 h2
    omega
  · rw [List.length_set, List.length_map, h.fl]
  · rw [lp_len (fun i a => tmIn_len _ _ _ _ _), List.length_map, h.rl]
  · rw [Sf, Sr, C_mulC, C_neg]
    have e := h.eq
    grind
  · intro i hi
    rw [Sr, add_at, C_mul, C_X_at]
    by_cases e : n - t + ys.length ≤ i + 1
    · rw [h.rz i e, Int.mul_zero, if_pos (by omega), S_out (xs := ys) (by omega), Int.mul_zero]; rfl
    · have ei : i = n - 1 - t + ys.length - 1 := by omega
      rw [if_pos (by omega), show i - (n - 1 - t) = ys.length - 1 by omega, ei, Int.neg_mul, f3]
      omega
  · intro i hi
    rw [Sf, add_at, C_mul, S_one_at, if_neg (by omega), h.fz i (by omega), Int.mul_zero]; rfl
  · intro d h1 h2 h3
    have hv : (d : Int) ∣ v := by
      have := h2 (n - 1 - t)
      rw [Sf, add_at, C_mul, S_one_at, if_pos rfl, h.fz _ (by omega), Int.mul_zero, Int.zero_add] at this
      exact this
    have hco : Nat.gcd d mo.natAbs = 1 := by
      have e1 : Nat.gcd d mo.natAbs ∣ mo.natAbs := Nat.gcd_dvd_right _ _
      have e2 : Nat.gcd d mo.natAbs ∣ v.natAbs := Nat.dvd_trans (Nat.gcd_dvd_left _ _) (Int.ofNat_dvd_left.mp hv)
      have := Nat.dvd_gcd e1 e2
      rw [f5] at this
      exact Nat.dvd_one.mp this
    refine h.cp d (nat_dvd_of_coprime hco (by rw [Int.mul_comm]; exact h1)) (fun i => ?_) (fun i => ?_)
    · refine nat_dvd_of_coprime hco ?_
      have := h2 i
      rw [Sf, add_at, C_mul, S_one_at] at this
      by_cases e : i = n - 1 - t
      · rw [e, h.fz _ (by omega), Int.mul_zero]; exact Int.dvd_zero _
      · rw [if_neg e, Int.add_zero] at this; exact this
    · refine nat_dvd_of_coprime hco ?_
      have := h3 i
      rw [Sr, add_at, C_mul, C_X_at] at this
      split at this
      · have e3 : (d : Int) ∣ -v * S ys (i - (n - 1 - t)) := Int.dvd_mul_of_dvd_left (Int.dvd_neg.mpr hv)
        exact (Int.dvd_add_left e3).mp this
      · rw [Int.add_zero] at this; exact this
  · exact (h.mb.mul hmob).mono (by rw [Nat.succ_mul]; omega)
  · intro x hx
    rcases List.mem_or_eq_of_mem_set hx with hx | rfl
    · obtain ⟨y, hy, rfl⟩ := List.mem_map.mp hx
      exact (hmob.mul (h.fb y hy)).mono (by rw [Nat.succ_mul]; omega)
    · exact hvb.mono (by rw [Nat.succ_mul]; omega)
  · intro x hx
    obtain ⟨i, hi, rfl⟩ := List.getElem_of_mem hx
    have ex : (lp (tmIn (-v) ys (n - 1 - t)) ys.length (r.map fun x => mo * x))[i] = S (lp (tmIn (-v) ys (n - 1 - t)) ys.length (r.map fun x => mo * x)) i := by
      rw [S_at, List.getD_eq_getElem?_getD, List.getElem?_eq_getElem hi]; rfl
    rw [ex, Sr, add_at, C_mul, C_X_at]
    have h1 : Bd (a + t * (b + 1) + b) (mo * S r i) := (hmob.mul (h.rb.at i)).mono (by omega)
    have h2 : Bd (a + t * (b + 1) + b) (if n - 1 - t ≤ i then -v * S ys (i - (n - 1 - t)) else 0) := by
      split
      · exact (hvb.neg.mul (hb.at _)).mono (by omega)
      · exact Bd.zero
    exact (h1.add h2).mono (by rw [Nat.succ_mul]; omega)
/-- so many times the one is the other times the quotient and the rest; the number, the quotient and the rest have nothing in common -/
structure Dv (xs ys : List Int) (m : Int) (q r : List Int) : Prop where
  m1 : 1 ≤ m
  eq : C m * S xs = S ys * S q + S r
  qt : Tr q
  rt : Tr r
  rl : r.length < ys.length
  cp : CP m (S q) (S r)
theorem DI.dv {xs ys : List Int} {a b n : Nat} {m : Int} {f r : List Int} (h : DI xs ys a b n n m f r) (hy : 0 < ys.length) : Dv xs ys m (trim f) (trim r) where
  m1 := h.m1
  eq := by rw [S_trim, S_trim]; exact h.eq
  qt := tr_trim _
  rt := tr_trim _
  rl := by
    have := trim_len_le (xs := r) (n := ys.length - 1) fun i hi => h.rz i (by omega)
    omega
  cp := by rw [S_trim, S_trim]; exact h.cp
end Pa

namespace Pa
open Ser

/-! ### how far a series goes -/
def Fin (n : Nat) (f : Ser) : Prop := ∀ i, n ≤ i → f i = 0
theorem Fin.S (xs : List Int) : Fin xs.length (Pa.S xs) := fun _ h => S_out h
theorem Fin.mono {n m : Nat} {f : Ser} (h : Fin n f) (hm : n ≤ m) : Fin m f := fun i hi => h i (by omega)
theorem Fin.zero (n : Nat) : Fin n 0 := fun i _ => zero_at i
theorem Fin.add {n : Nat} {f g : Ser} (hf : Fin n f) (hg : Fin n g) : Fin n (f + g) := fun i hi => by rw [add_at, hf i hi, hg i hi]; rfl
theorem Fin.sub {n : Nat} {f g : Ser} (hf : Fin n f) (hg : Fin n g) : Fin n (f - g) := fun i hi => by rw [sub_at, hf i hi, hg i hi]; rfl
theorem Fin.neg {n : Nat} {f : Ser} (hf : Fin n f) : Fin n (-f) := fun i hi => by rw [neg_at, hf i hi]; rfl
theorem Fin.C (a : Int) : Fin 1 (Ser.C a) := fun i hi => by
  obtain ⟨k, rfl⟩ : ∃ k, i = k + 1 := ⟨i - 1, by omega⟩
  exact C_succ a k
theorem Fin.smul {n : Nat} {f : Ser} (a : Int) (hf : Fin n f) : Fin n (Ser.C a * f) := fun i hi => by rw [C_mul, hf i hi, Int.mul_zero]
theorem Fin.eq_zero {f : Ser} (h : Fin 0 f) : f = 0 := Ser.ext fun i => by rw [h i (Nat.zero_le _), zero_at]
/-- the product's top number -/
theorem Fin.top {d e : Nat} {f g : Ser} (hf : Fin (d + 1) f) (hg : Fin (e + 1) g) : (f * g) (d + e) = f d * g e ∧ Fin (d + e + 1) (f * g) := by
  induction d generalizing f with
  | zero =>
    have ht : tail f = 0 := Ser.ext fun i => by rw [tail_at, hf _ (by omega), zero_at]
    have key : ∀ n, (f * g) n = f 0 * g n := fun n => by
      cases n with
      | zero => rfl
      | succ n => rw [mul_succ_at, ht, zero_mul_at, Int.add_zero]
    refine ⟨by rw [Nat.zero_add, key], fun i hi => ?_⟩
    rw [key, hg i (by omega), Int.mul_zero]
  | succ d ih =>
    have ht : Fin (d + 1) (tail f) := fun i hi => hf (i + 1) (by omega)
    obtain ⟨h1, h2⟩ := ih ht
    refine ⟨?_, fun i hi => ?_⟩
    · rw [show d + 1 + e = (d + e) + 1 by omega, mul_succ_at, hg (d + e + 1) (by omega), Int.mul_zero, Int.zero_add, h1]; rfl
    · obtain ⟨k, rfl⟩ : ∃ k, i = k + 1 := ⟨i - 1, by omega⟩
      rw [mul_succ_at, hg (k + 1) (by omega), Int.mul_zero, Int.zero_add]
      exact h2 k (by omega)
theorem Fin.mul {d e : Nat} {f g : Ser} (hf : Fin d f) (hg : Fin e g) : Fin (d + e - 1) (f * g) := by
  cases d with
  | zero =>
    rw [hf.eq_zero]
    intro i _
    exact zero_mul_at g i
  | succ d =>
    cases e with
    | zero =>
      rw [hg.eq_zero, mul_comm']
      intro i _
      exact zero_mul_at f i
    | succ e => exact (Fin.top hf hg).2.mono (by omega)
/-- nought, or its top number -/
theorem Fin.cases {f : Ser} : ∀ {n : Nat}, Fin n f → f = 0 ∨ ∃ d, d < n ∧ f d ≠ 0 ∧ Fin (d + 1) f
  | 0, h => .inl h.eq_zero
  | n + 1, h => by
    by_cases hn : f n = 0
    · have h' : Fin n f := fun i hi => by
        by_cases e : i = n
        · rw [e]; exact hn
        · exact h i (by omega)
      rcases Fin.cases h' with h' | ⟨d, h1, h2, h3⟩
      · exact .inl h'
      · exact .inr ⟨d, by omega, h2, h3⟩
    · exact .inr ⟨n, by omega, hn, h⟩
theorem ne_zero_of_at {f : Ser} {d : Nat} (h : f d ≠ 0) : f ≠ 0 := fun z => h (by rw [z, zero_at])
/-- no divisors of nought -/
theorem mul_eq_zero' {n m : Nat} {f g : Ser} (hf : Fin n f) (hg : Fin m g) (h : f * g = 0) : f = 0 ∨ g = 0 := by
  rcases hf.cases with e | ⟨d, _, h1, h2⟩
  · exact .inl e
  · rcases hg.cases with e | ⟨e, _, h3, h4⟩
    · exact .inr e
    · have t := (Fin.top h2 h4).1
      rw [h, zero_at] at t
      exact absurd t.symm (Int.mul_ne_zero h1 h3)
theorem mul_cancel' {n m k : Nat} {f g h : Ser} (hf : Fin n f) (hg : Fin m g) (hh : Fin k h) (h0 : f ≠ 0) (e : f * g = f * h) : g = h := by
  have e2 : f * (g - h) = 0 := by grind
  rcases mul_eq_zero' hf ((hg.mono (Nat.le_max_left m k)).sub (hh.mono (Nat.le_max_right m k))) e2 with z | z
  · exact absurd z h0
  · grind
/-- a multiple that is shorter is nought -/
theorem mul_short {n L : Nat} {f g : Ser} (hf : Fin n f) (hg : Fin (L + 1) g) (hg0 : g L ≠ 0) (h : Fin L (g * f)) : f = 0 := by
  rcases hf.cases with e | ⟨d, _, h1, h2⟩
  · exact e
  · have t := (Fin.top hg h2).1
    rw [h (L + d) (by omega)] at t
    exact absurd t.symm (Int.mul_ne_zero hg0 h1)
theorem S_ne_zero {xs : List Int} (ht : Tr xs) (hne : xs ≠ []) : S xs ≠ 0 := fun h => hne (S_zero_nil ht h)
theorem S_top {ys : List Int} (ht : Tr ys) (hne : ys ≠ []) : S ys (ys.length - 1) ≠ 0 := by
  have hy : 0 < ys.length := List.length_pos_iff.mpr hne
  have e : S ys (ys.length - 1) = ys.getLast hne := by
    rw [S_at, List.getD_eq_getElem?_getD, List.getElem?_eq_getElem (by omega), List.getLast_eq_getElem]; rfl
  rw [e]; exact tr_last ht hne
theorem Fin.Sl {ys : List Int} (hne : ys ≠ []) : Fin (ys.length - 1 + 1) (Pa.S ys) := (Fin.S ys).mono (by omega)
/-- a series that ends as a row -/
theorem Fin.row {n : Nat} {f : Ser} (h : Fin n f) : ∃ xs, Tr xs ∧ Pa.S xs = f ∧ xs.length ≤ n := by
  refine ⟨trim ((List.range n).map fun i => f i), tr_trim _, ?_, Nat.le_trans (trim_length_le _) (by rw [List.length_map, List.length_range]; exact Nat.le_refl n)⟩
  rw [S_trim]
  refine Ser.ext fun i => ?_
  rw [S_at, getD_map_range]
  split
  · rfl
  · rw [h i (by omega)]
theorem C_ne_zero {a : Int} (h : a ≠ 0) : Ser.C a ≠ 0 := fun z => h (C_inj (by rw [z]; rfl))
theorem C_cancel {a : Int} {f g : Ser} (h : a ≠ 0) (e : Ser.C a * f = Ser.C a * g) : f = g := Ser.ext fun i => by
  have := congrFun e i
  rw [C_mul, C_mul] at this
  exact Int.eq_of_mul_eq_mul_left h this

/-! ### a division that leaves nothing -/
/-- so many times another one -/
def Whole (xs ys q : List Int) : Prop := Tr q ∧ S xs = S ys * S q
theorem Whole.unique {xs ys q q' : List Int} (ht : Tr ys) (hne : ys ≠ []) (h : Whole xs ys q) (h' : Whole xs ys q') : q = q' :=
  S_inj h.1 h'.1 (mul_cancel' (Fin.S ys) (Fin.S q) (Fin.S q') (S_ne_zero ht hne) (by rw [← h.2, ← h'.2]))
theorem Whole.len {xs ys q : List Int} (ht : Tr ys) (hne : ys ≠ []) (h : Whole xs ys q) : q.length ≤ xs.length + 1 - ys.length := by
  by_cases hq : q = []
  · subst hq; exact Nat.zero_le _
  · have h1 := (Fin.top (Fin.Sl hne) (Fin.Sl hq)).1
    rw [← h.2] at h1
    have hy : 0 < ys.length := List.length_pos_iff.mpr hne
    have hq0 : 0 < q.length := List.length_pos_iff.mpr hq
    have h2 : S xs (ys.length - 1 + (q.length - 1)) ≠ 0 := by
      rw [h1]; exact Int.mul_ne_zero (S_top ht hne) (S_top h.1 hq)
    have h3 : ys.length - 1 + (q.length - 1) < xs.length := Nat.lt_of_not_le fun z => h2 (S_out z)
    omega
theorem Dv.whole {xs ys q q' r : List Int} {m : Int} (ht : Tr ys) (hne : ys ≠ []) (h : Dv xs ys m q r) (h' : Whole xs ys q') : m = 1 ∧ r = [] ∧ q = q' := by
  have hy : 0 < ys.length := List.length_pos_iff.mpr hne
  have e1 : S ys * (C m * S q' - S q) = S r := by
    have a1 := h.eq
    have a2 := h'.2
    grind
  have fr : Fin (ys.length - 1) (S ys * (C m * S q' - S q)) := by
    rw [e1]; exact (Fin.S r).mono (by have := h.rl; omega)
  have f1 : Fin (max q'.length q.length) (C m * S q' - S q) := (((Fin.S q').smul m).mono (Nat.le_max_left _ _)).sub ((Fin.S q).mono (Nat.le_max_right _ _))
  have z := mul_short f1 (Fin.Sl hne) (S_top ht hne) fr
  have hr : r = [] := S_zero_nil h.rt (by rw [← e1, z]; grind)
  have hq : S q = C m * S q' := by grind
  have hm : m = 1 := by
    have hd : ((m.natAbs : Nat) : Int) ∣ m := Int.natAbs_dvd.mpr (Int.dvd_refl m)
    have := h.cp m.natAbs hd (fun i => by rw [hq, C_mul]; exact Int.dvd_mul_of_dvd_left hd) (fun i => by rw [hr, S_nil, zero_at]; exact Int.dvd_zero _)
    have := h.m1
    omega
  refine ⟨hm, hr, S_inj h.qt h'.1 ?_⟩
  rw [hq, hm, ← one_eq]; grind
theorem Dv.isWhole {xs ys q : List Int} (h : Dv xs ys 1 q []) : Whole xs ys q := ⟨h.qt, by
  have e := h.eq
  rw [S_nil, ← one_eq] at e
  grind⟩

/-- long division without fractions: what holds behind t steps of n -/
structure QI (xs ys : List Int) (a b n t : Nat) (f r : List Int) : Prop where
  fl : f.length = n
  rl : r.length = xs.length
  eq : S xs = S ys * S f + S r
  rz : ∀ i, n - t + ys.length ≤ i + 1 → S r i = 0
  fz : ∀ i, i < n - t → S f i = 0
  fb : BdL (a + t * (b + 1)) f
  rb : BdL (a + t * (b + 1)) r
theorem QI.start {xs ys : List Int} {a b n : Nat} (hn : n = xs.length + 1 - ys.length) (ha : BdL a xs) : QI xs ys a b n 0 (List.replicate n 0) xs where
  fl := List.length_replicate
  rl := rfl
  eq := by rw [S_zeros]; grind
  rz := fun i hi => S_out (by omega)
  fz := fun i _ => by rw [S_zeros, zero_at]
  fb := fun x hx => by rw [(List.mem_replicate.mp hx).2]; exact Bd.zero
  rb := ha.mono (by omega)
theorem QI.step {xs ys : List Int} {a b n t : Nat} {f r : List Int} {v : Int} (h : QI xs ys a b n t f r) (ht : t < n) (hn : n = xs.length + 1 - ys.length) (hy : 0 < ys.length) (hb : BdL b ys)
    (hlc : S ys (ys.length - 1) ≠ 0) (hv : v * S ys (ys.length - 1) = S r (n - 1 - t + ys.length - 1)) :
    QI xs ys a b n (t + 1) (f.set (n - 1 - t) v) (lp (sbIn v ys (n - 1 - t)) ys.length r) := by
  have htb : Bd (a + t * (b + 1)) (S r (n - 1 - t + ys.length - 1)) := h.rb.at _
  have hvb : Bd (a + t * (b + 1)) v := by
    refine Nat.lt_of_le_of_lt ?_ htb
    rw [← hv, Int.natAbs_mul]
    exact Nat.le_mul_of_pos_right _ (Int.natAbs_pos.mpr hlc)
  rw [sbIn_eq]
  have hpl : n - 1 - t < f.length := by rw [h.fl]; omega
  have hf0 : f.getD (n - 1 - t) 0 = 0 := h.fz _ (by omega)
  have Sf : S (f.set (n - 1 - t) v) = S f + C v * X ^ (n - 1 - t) := by
    have e : v = f.getD (n - 1 - t) 0 + v := by rw [hf0, Int.zero_add]
    conv => lhs; rw [e]
    rw [S_set hpl]
  have rlen : n - 1 - t + ys.length ≤ r.length := by rw [h.rl]; omega
  have Sr : S (lp (tmIn (-v) ys (n - 1 - t)) ys.length r) = S r + C (-v) * X ^ (n - 1 - t) * S ys := by
    rw [S_row _ (Nat.le_refl _) rlen, List.take_length]
  refine ⟨?_, ?_, ?_, ?_, ?_, ?_, ?_⟩
  · rw [List.length_set, h.fl]
  · rw [lp_len (fun i a => tmIn_len _ _ _ _ _), h.rl]
  · rw [Sf, Sr, C_neg]
    have e := h.eq
    grind
  · intro i hi
    rw [Sr, add_at, C_X_at]
    by_cases e : n - t + ys.length ≤ i + 1
    · rw [h.rz i e, if_pos (by omega), S_out (xs := ys) (by omega), Int.mul_zero]; rfl
    · have ei : i = n - 1 - t + ys.length - 1 := by omega
      rw [if_pos (by omega), show i - (n - 1 - t) = ys.length - 1 by omega, ei, Int.neg_mul, hv]
      omega
  · intro i hi
    rw [Sf, add_at, S_one_at, if_neg (by omega), h.fz i (by omega)]; rfl
  · intro x hx
    rcases List.mem_or_eq_of_mem_set hx with hx | rfl
    · exact (show Bd _ _ from h.fb x hx).mono (by rw [Nat.succ_mul]; omega)
    · exact hvb.mono (by rw [Nat.succ_mul]; omega)
  · intro x hx
    obtain ⟨i, hi, rfl⟩ := List.getElem_of_mem hx
    have ex : (lp (tmIn (-v) ys (n - 1 - t)) ys.length r)[i] = S (lp (tmIn (-v) ys (n - 1 - t)) ys.length r) i := by
      rw [S_at, List.getD_eq_getElem?_getD, List.getElem?_eq_getElem hi]; rfl
    rw [ex, Sr, add_at, C_X_at]
    have h1 : Bd (a + t * (b + 1) + b) (S r i) := (show Bd _ _ from h.rb.at i).mono (by omega)
    have h2 : Bd (a + t * (b + 1) + b) (if n - 1 - t ≤ i then -v * S ys (i - (n - 1 - t)) else 0) := by
      split
      · exact (hvb.neg.mul (hb.at _)).mono (by omega)
      · exact Bd.zero
    exact (h1.add h2).mono (by rw [Nat.succ_mul]; omega)
theorem QI.no {xs ys : List Int} {a b n t : Nat} {f r : List Int} (h : QI xs ys a b n t f r) (ht : t < n) (htr : Tr ys) (hne : ys ≠ []) (hd : ¬ S ys (ys.length - 1) ∣ S r (n - 1 - t + ys.length - 1)) : ∀ q, ¬ Whole xs ys q := fun q hq => by
  have hy : 0 < ys.length := List.length_pos_iff.mpr hne
  have e : S ys * (S q - S f) = S r := by
    have a1 := h.eq
    have a2 := hq.2
    grind
  have ff : Fin (max q.length f.length) (S q - S f) := ((Fin.S q).mono (Nat.le_max_left _ _)).sub ((Fin.S f).mono (Nat.le_max_right _ _))
  rcases ff.cases with z | ⟨d, _, h1, h2⟩
  · refine hd ?_
    rw [← e, z]
    have : (S ys * 0 : Ser) = 0 := by grind
    rw [this, zero_at]; exact Int.dvd_zero _
  · have t1 := Fin.top (Fin.Sl hne) h2
    rw [e] at t1
    have hlt : d ≤ n - 1 - t := Nat.le_of_not_lt fun hlt => by
      have z := h.rz (ys.length - 1 + d) (by omega)
      rw [t1.1] at z
      exact Int.mul_ne_zero (S_top htr hne) h1 z
    by_cases hdd : d = n - 1 - t
    · refine hd ?_
      rw [show n - 1 - t + ys.length - 1 = ys.length - 1 + d by omega, t1.1]
      exact Int.dvd_mul_right _ _
    · refine hd ?_
      rw [t1.2 _ (by omega)]; exact Int.dvd_zero _
theorem QI.whole {xs ys : List Int} {a b n : Nat} {f r : List Int} (h : QI xs ys a b n n f r) (hr : trim r = []) : Whole xs ys (trim f) := ⟨tr_trim _, by
  have e : S r = 0 := by rw [← S_trim, hr, S_nil]
  rw [S_trim, h.eq, e]; grind⟩
theorem QI.nowhole {xs ys : List Int} {a b n : Nat} {f r : List Int} (h : QI xs ys a b n n f r) (htr : Tr ys) (hne : ys ≠ []) (hr : trim r ≠ []) : ∀ q, ¬ Whole xs ys q := fun q hq => by
  have hy : 0 < ys.length := List.length_pos_iff.mpr hne
  have e : S ys * (S q - S f) = S r := by
    have a1 := h.eq
    have a2 := hq.2
    grind
  have ff : Fin (max q.length f.length) (S q - S f) := ((Fin.S q).mono (Nat.le_max_left _ _)).sub ((Fin.S f).mono (Nat.le_max_right _ _))
  have z := mul_short ff (Fin.Sl hne) (S_top htr hne) (by rw [e]; exact fun i hi => h.rz i (by omega))
  refine hr (S_zero_nil (tr_trim r) ?_)
  rw [S_trim, ← e, z]; grind
end Pa

namespace Pa
open Ser

/-! ### numbers without divisors -/
def Pr (p : Nat) : Prop := 2 ≤ p ∧ ∀ d, d ∣ p → d = 1 ∨ d = p
theorem exists_pr : ∀ {n : Nat}, 2 ≤ n → ∃ p, Pr p ∧ p ∣ n
  | n, h => by
    by_cases hp : Pr n
    · exact ⟨n, hp, Nat.dvd_refl n⟩
    · have : ∃ d, d ∣ n ∧ d ≠ 1 ∧ d ≠ n := Classical.byContradiction fun z => hp ⟨h, fun d hd => Classical.byContradiction fun z2 => z ⟨d, hd, fun e => z2 (.inl e), fun e => z2 (.inr e)⟩⟩
      obtain ⟨d, hd, h1, h2⟩ := this
      have hle := Nat.le_of_dvd (by omega) hd
      have hd0 : d ≠ 0 := fun e => by rw [e] at hd; have := Nat.eq_zero_of_zero_dvd hd; omega
      obtain ⟨p, hp, hpd⟩ := exists_pr (n := d) (by omega)
      exact ⟨p, hp, Nat.dvd_trans hpd hd⟩
termination_by n => n
decreasing_by omega
theorem Pr.dvd_mul {p : Nat} (h : Pr p) {a b : Int} (hd : (p : Int) ∣ a * b) : (p : Int) ∣ a ∨ (p : Int) ∣ b := by
  by_cases ha : (p : Int) ∣ a
  · exact .inl ha
  · refine .inr (nat_dvd_of_coprime ?_ hd)
    rcases h.2 _ (Nat.gcd_dvd_left p a.natAbs) with e | e
    · exact e
    · exact absurd (Int.ofNat_dvd_left.mpr (by rw [← e]; exact Nat.gcd_dvd_right _ _)) ha

/-! ### the product of two rows without a common divisor -/
def Prim (f : Ser) : Prop := ∀ d : Nat, (∀ i, (d : Int) ∣ f i) → d = 1
theorem prim_of_cont {xs : List Int} (h : cont xs = 1) : Prim (S xs) := fun d hd => by
  have := dvd_cont (dvd_of_S hd)
  rw [h] at this
  exact Nat.dvd_one.mp this
theorem cont_of_prim {xs : List Int} (h : Prim (S xs)) : cont xs = 1 := h _ (dvd_S fun x hx => cont_dvd hx)
theorem top_nd {p : Nat} {f : Ser} : ∀ {n : Nat}, Fin n f → (¬ ∀ i, (p : Int) ∣ f i) → ∃ d, ¬ (p : Int) ∣ f d ∧ ∀ i, d < i → (p : Int) ∣ f i
  | 0, hf, h => absurd (fun i => by rw [hf i (Nat.zero_le _)]; exact Int.dvd_zero _) h
  | n + 1, hf, h => by
    by_cases hn : (p : Int) ∣ f n
    · have : ∃ d, ¬ (p : Int) ∣ f d ∧ ∀ i, d < i → i < n + 1 → (p : Int) ∣ f i := by
        have key : ∀ k, k ≤ n + 1 → (∀ i, k ≤ i → (p : Int) ∣ f i) → (∃ d, ¬ (p : Int) ∣ f d ∧ ∀ i, d < i → i < n + 1 → (p : Int) ∣ f i) := by
          intro k
          induction k with
          | zero => intro _ hk; exact absurd (fun i => hk i (Nat.zero_le _)) h
          | succ k ih =>
            intro hk1 hk
            by_cases hk2 : (p : Int) ∣ f k
            · exact ih (by omega) fun i hi => by
                by_cases e : i = k
                · rw [e]; exact hk2
                · exact hk i (by omega)
            · exact ⟨k, hk2, fun i hi _ => hk i (by omega)⟩
        exact key (n + 1) (Nat.le_refl _) fun i hi => by rw [hf i hi]; exact Int.dvd_zero _
      obtain ⟨d, h1, h2⟩ := this
      refine ⟨d, h1, fun i hi => ?_⟩
      by_cases hi2 : i < n + 1
      · exact h2 i hi hi2
      · rw [hf i (by omega)]; exact Int.dvd_zero _
    · exact ⟨n, hn, fun i hi => by rw [hf i (by omega)]; exact Int.dvd_zero _⟩
theorem dvd_C_mul {m : Int} {f : Ser} (i : Nat) : m ∣ (C m * f) i := by rw [C_mul]; exact Int.dvd_mul_right _ _
theorem gauss_pr {p : Nat} (hp : Pr p) {n m : Nat} {f g : Ser} (hf : Fin n f) (hg : Fin m g) (h : ∀ i, (p : Int) ∣ (f * g) i) : (∀ i, (p : Int) ∣ f i) ∨ (∀ i, (p : Int) ∣ g i) := by
  by_cases h1 : ∀ i, (p : Int) ∣ f i
  · exact .inl h1
  by_cases h2 : ∀ i, (p : Int) ∣ g i
  · exact .inr h2
  obtain ⟨d, d1, d2⟩ := top_nd hf h1
  obtain ⟨e, e1, e2⟩ := top_nd hg h2
  let f1 : Ser := fun i => if i ≤ d then f i else 0
  let g1 : Ser := fun i => if i ≤ e then g i else 0
  let f3 : Ser := fun i => if i ≤ d then 0 else f i / (p : Int)
  let g3 : Ser := fun i => if i ≤ e then 0 else g i / (p : Int)
  have ef : f = f1 + C (p : Int) * f3 := Ser.ext fun i => by
    rw [add_at, C_mul]
    show f i = (if i ≤ d then f i else 0) + (p : Int) * (if i ≤ d then 0 else f i / (p : Int))
    by_cases hi : i ≤ d
    · rw [if_pos hi, if_pos hi, Int.mul_zero, Int.add_zero]
    · rw [if_neg hi, if_neg hi, Int.zero_add, Int.mul_ediv_cancel' (d2 i (by omega))]
  have eg : g = g1 + C (p : Int) * g3 := Ser.ext fun i => by
    rw [add_at, C_mul]
    show g i = (if i ≤ e then g i else 0) + (p : Int) * (if i ≤ e then 0 else g i / (p : Int))
    by_cases hi : i ≤ e
    · rw [if_pos hi, if_pos hi, Int.mul_zero, Int.add_zero]
    · rw [if_neg hi, if_neg hi, Int.zero_add, Int.mul_ediv_cancel' (e2 i (by omega))]
  have F1 : Fin (d + 1) f1 := fun i hi => if_neg (by omega)
  have G1 : Fin (e + 1) g1 := fun i hi => if_neg (by omega)
  have hfg : f * g = f1 * g1 + C (p : Int) * (f3 * g + f1 * g3) := by
    have a1 := ef
    have a2 := eg
    grind
  have t := (Fin.top F1 G1).1
  have hd := h (d + e)
  rw [hfg, add_at] at hd
  have hd2 := (Int.dvd_add_left (dvd_C_mul (m := (p : Int)) (f := f3 * g + f1 * g3) (d + e))).mp hd
  rw [t] at hd2
  have q1 : f1 d = f d := if_pos (Nat.le_refl d)
  have q2 : g1 e = g e := if_pos (Nat.le_refl e)
  rw [q1, q2] at hd2
  rcases hp.dvd_mul hd2 with z | z
  · exact absurd z d1
  · exact absurd z e1
/-- what divides all numbers of a series, taken out -/
theorem take_out {m : Int} {n : Nat} {g : Ser} (hg : Fin n g) (h : ∀ i, m ∣ g i) : ∃ g3, g = C m * g3 ∧ Fin n g3 := by
  let g3 : Ser := fun i => g i / m
  refine ⟨g3, Ser.ext fun i => ?_, fun i hi => ?_⟩
  · rw [C_mul]
    exact (Int.mul_ediv_cancel' (h i)).symm
  · show g i / m = 0
    rw [hg i hi, Int.zero_ediv]
theorem gauss : ∀ {m : Nat}, 0 < m → ∀ {n k : Nat} {f g : Ser}, Fin n f → Fin k g → Prim f → (∀ i, (m : Int) ∣ (f * g) i) → ∀ i, (m : Int) ∣ g i
  | m, hm, n, k, f, g, hf, hg, hprim, h => by
    by_cases h1 : m = 1
    · intro i; rw [h1]; exact Int.one_dvd _
    · obtain ⟨p, hp, hpm⟩ := exists_pr (n := m) (by omega)
      obtain ⟨m', rfl⟩ := hpm
      have hp2 := hp.1
      have hm' : 0 < m' := Nat.pos_of_ne_zero fun z => by rw [z, Nat.mul_zero] at hm; exact absurd hm (Nat.lt_irrefl 0)
      have hlt : m' < p * m' := by
        have := Nat.mul_le_mul_right m' hp2
        omega
      have hpd : ∀ i, (p : Int) ∣ (f * g) i := fun i => Int.dvd_trans (by rw [Int.natCast_mul]; exact Int.dvd_mul_right _ _) (h i)
      rcases gauss_pr hp hf hg hpd with z | z
      · have := hprim p z; omega
      · obtain ⟨g3, e, hg3⟩ := take_out hg z
        have h3 : ∀ i, (m' : Int) ∣ (f * g3) i := fun i => by
          have a := h i
          rw [e, show f * (C (p : Int) * g3) = C (p : Int) * (f * g3) by grind, C_mul, Int.natCast_mul] at a
          exact Int.dvd_of_mul_dvd_mul_left (by omega) a
        have ih := gauss hm' hf hg3 hprim h3
        intro i
        rw [e, C_mul, Int.natCast_mul]
        exact Int.mul_dvd_mul_left _ (ih i)
termination_by m => m
decreasing_by all_goals (simp_wf; first | omega | assumption)
/-- d divides f, the quotient a row -/
def PD (d f : Ser) : Prop := ∃ n k, Fin n k ∧ f = d * k
theorem PD.zero (d : Ser) : PD d 0 := ⟨0, 0, Fin.zero 0, by grind⟩
theorem PD.refl (d : Ser) : PD d d := ⟨1, 1, by rw [one_eq]; exact Fin.C 1, by grind⟩
theorem PD.add {d f g : Ser} (hf : PD d f) (hg : PD d g) : PD d (f + g) := by
  obtain ⟨n, k, h1, e1⟩ := hf
  obtain ⟨m, l, h2, e2⟩ := hg
  exact ⟨max n m, k + l, (h1.mono (Nat.le_max_left _ _)).add (h2.mono (Nat.le_max_right _ _)), by grind⟩
theorem PD.mul {d f : Ser} {n : Nat} {g : Ser} (hf : PD d f) (hg : Fin n g) : PD d (f * g) := by
  obtain ⟨m, k, h1, e1⟩ := hf
  exact ⟨_, k * g, h1.mul hg, by grind⟩
theorem PD.C {d f : Ser} (m : Int) (hf : PD d f) : PD d (Ser.C m * f) := by
  obtain ⟨n, k, h1, e1⟩ := hf
  exact ⟨n, Ser.C m * k, h1.smul m, by grind⟩
/-- a divisor without a common number of all its numbers: numbers ahead go away -/
theorem PD.out {d f : Ser} {m : Int} {n : Nat} (hd : Fin n d) (hp : Prim d) (hm : m ≠ 0) (h : PD d (Ser.C m * f)) : PD d f := by
  obtain ⟨k, g, hg, e⟩ := h
  have hdv : ∀ i, (m.natAbs : Int) ∣ (d * g) i := fun i => by
    rw [← e, C_mul]
    exact Int.dvd_trans (Int.natAbs_dvd.mpr (Int.dvd_refl m)) (Int.dvd_mul_right _ _)
  have hg2 := gauss (Int.natAbs_pos.mpr hm) hd hg hp hdv
  obtain ⟨g3, e3, hg3⟩ := take_out (m := m) hg fun i => Int.natAbs_dvd.mp (hg2 i)
  refine ⟨k, g3, hg3, C_cancel hm ?_⟩
  rw [e, e3]; grind
end Pa

namespace Pa
open Ser

theorem ring1 (g N s : Ser) : g * (N * s) = g * N * s := by grind
theorem ring2 (a b c s : Ser) : a * b * c * s = a * b * (c * s) := by grind
theorem ring3 (g p q A B : Ser) : g * (p * A + q * B) = g * p * A + g * q * B := by grind
theorem ring4 {a b c : Ser} (h : a = b + c) : c = a - b := by grind
theorem ring5 (n n2 s m x x2 q : Ser) : n * n2 * (s * (m * x - x2 * q)) = s * m * n2 * (n * x) - s * n * q * (n2 * x2) := by grind
theorem ring6 (s m n2 n q u v u2 v2 A B : Ser) : s * m * n2 * (u * A + v * B) - s * n * q * (u2 * A + v2 * B) = (s * m * n2 * u - s * n * q * u2) * A + (s * m * n2 * v - s * n * q * v2) * B := by grind
/-! ### combinations -/
structure Cb (A B x u v : List Int) (n : Int) : Prop where
  n1 : 1 ≤ n
  eq : C n * S x = S u * S A + S v * S B
  xt : Tr x
  ut : Tr u
  vt : Tr v
  sm : x ≠ [] → cont x = 1 ∧ 0 < x.getLast?.getD 0
theorem sgn_fdiv {c : Int} (h : c ≠ 0) : c.fdiv (c.natAbs : Int) = if c < 0 then -1 else 1 := by
  split
  · have e : c = (c.natAbs : Int) * -1 := by omega
    conv => lhs; arg 1; rw [e]
    exact Int.mul_fdiv_cancel_left _ (by omega)
  · have e : c = (c.natAbs : Int) * 1 := by omega
    conv => lhs; arg 1; rw [e]
    exact Int.mul_fdiv_cancel_left _ (by omega)
def sgnr (xs : List Int) : Int := if sgc xs < 0 then -1 else 1
theorem sgnr_sq (xs : List Int) : sgnr xs * sgnr xs = 1 := by unfold sgnr; split <;> rfl
theorem sgc_sgnr (xs : List Int) : sgc xs = sgnr xs * (cont xs : Int) := by
  have h := sgc_abs xs
  unfold sgnr
  split <;> omega
theorem cont_simp {r : List Int} (ht : Tr r) : C (cont r : Int) * S (simp' r) = C (sgnr r) * S r := by
  have e := S_simp ht
  rw [sgc_sgnr, C_mulC] at e
  have e2 : C (sgnr r) * C (sgnr r) = (1 : Ser) := by rw [← C_mulC, sgnr_sq]; rfl
  rw [← e]
  grind
theorem Cb.step {A B x u v x2 u2 v2 q r : List Int} {n n2 m N g : Int} (h : Cb A B x u v n) (t : Cb A B x2 u2 v2 n2) (d : Dv x x2 m q r) (hr : r ≠ []) {ones others : List Int}
    (e1 : ones = minus (scaled u (sgnr r * m * n2)) (tm (scaled q (sgnr r * n)) u2)) (e2 : others = minus (scaled v (sgnr r * m * n2)) (tm (scaled q (sgnr r * n)) v2)) (eN : N = n * n2 * (cont r : Int))
    (hg : g ≠ 0) (g1 : ∀ y ∈ ones, g ∣ y) (g2 : ∀ y ∈ others, g ∣ y) (g3 : g ∣ N) (gp : 0 < g) : Cb A B (simp' r) (divBy ones g) (divBy others g) (N.fdiv g) := by
  have hcp := cont_pos d.rt hr
  have hN : 1 ≤ N := by
    rw [eN]
    have a1 := h.n1
    have a2 := t.n1
    have a3 : (1 : Int) ≤ (cont r : Int) := by omega
    have a4 : 0 < n * n2 := Int.mul_pos (by omega) (by omega)
    have := Int.mul_pos a4 (show (0 : Int) < (cont r : Int) by omega)
    omega
  refine ⟨?_, ?_, simp_tr d.rt, divBy_tr hg g1 (by rw [e1]; exact minus_tr _ _), divBy_tr hg g2 (by rw [e2]; exact minus_tr _ _), fun _ => ⟨simp_cont d.rt hr, ?_⟩⟩
  · have e := fdiv_of_dvd hg g3
    refine Int.not_lt.mp fun z => ?_
    have := Int.mul_nonpos_of_nonneg_of_nonpos (Int.le_of_lt gp) (show N.fdiv g ≤ 0 by omega)
    omega
  · refine C_cancel hg ?_
    have s1 := S_divBy hg g1
    have s2 := S_divBy hg g2
    have s3 : C g * C (N.fdiv g) = C N := by rw [← C_mulC, fdiv_of_dvd hg g3]
    have s4 := cont_simp d.rt
    have s5 : S ones = C (sgnr r) * C m * C n2 * S u - C (sgnr r) * C n * S q * S u2 := by
      rw [e1, S_minus, S_scaled, S_tm, S_scaled, C_mulC, C_mulC, C_mulC]
    have s6 : S others = C (sgnr r) * C m * C n2 * S v - C (sgnr r) * C n * S q * S v2 := by
      rw [e2, S_minus, S_scaled, S_tm, S_scaled, C_mulC, C_mulC, C_mulC]
    have s7 : C N = C n * C n2 * C (cont r : Int) := by rw [eN, C_mulC, C_mulC]
    have b1 := h.eq
    have b2 := t.eq
    have b3 := d.eq
    rw [ring1, s3, s7, ring2, s4, ring4 b3, ring5, b1, b2, ring3 (C g), s1, s2, s5, s6, ring6]
  · have := simp_last d.rt hr
    rw [List.getLast?_eq_some_getLast (simp_ne hr)]
    exact this
/-! ### common divisors, backwards -/
theorem PD.back {x x2 q r : List Int} {m : Int} {d : Ser} {n : Nat} (hd : Fin n d) (hp : Prim d) (dv : Dv x x2 m q r) (h2 : PD d (S x2)) (hr : PD d (S (simp' r))) : PD d (S x) := by
  refine PD.out hd hp (show m ≠ 0 by have := dv.m1; omega) ?_
  rw [dv.eq]
  refine (h2.mul (Fin.S q)).add ?_
  rw [← S_simp dv.rt]
  exact hr.C _
/-- what is asked of the divisors that two rows share -/
def Sh (A B x y : List Int) : Prop := ∀ (n : Nat) (d : Ser), Fin n d → Prim d → PD d (S x) → PD d (S y) → PD d (S A) ∧ PD d (S B)
theorem Sh.start {A B : List Int} (ha : Tr A) (hb : Tr B) : Sh A B (simp' A) (simp' B) := fun n d _ _ h1 h2 => ⟨by rw [← S_simp ha]; exact h1.C _, by rw [← S_simp hb]; exact h2.C _⟩
theorem Sh.step {A B x x2 q r : List Int} {m : Int} (h : Sh A B x x2) (dv : Dv x x2 m q r) : Sh A B x2 (simp' r) := fun n d hd hp h1 h2 => h n d hd hp (PD.back hd hp dv h1 h2) h1
theorem Sh.end' {A B x : List Int} (h : Sh A B x []) (hx : cont x = 1) : PD (S x) (S A) ∧ PD (S x) (S B) :=
  h _ _ (Fin.S x) (prim_of_cont hx) (PD.refl _) (by rw [S_nil]; exact PD.zero _)
theorem PD.whole {A x : List Int} (h : PD (S x) (S A)) : ∃ s, Whole A x s := by
  obtain ⟨n, k, hk, e⟩ := h
  obtain ⟨s, h1, h2, _⟩ := hk.row
  exact ⟨s, h1, by rw [h2]; exact e⟩
/-- a common divisor divides what a combination tells -/
theorem Cb.common {A B x u v : List Int} {n : Int} (h : Cb A B x u v n) {d : Ser} {k : Nat} (hd : Fin k d) (hp : Prim d) (ha : PD d (S A)) (hb : PD d (S B)) : PD d (S x) := by
  refine PD.out hd hp (show n ≠ 0 by have := h.n1; omega) ?_
  rw [h.eq, mul_comm' (S u), mul_comm' (S v)]
  exact (ha.mul (Fin.S u)).add (hb.mul (Fin.S v))
end Pa

namespace Pa
/-! ### how great the numbers of a remainder sequence get -/
/-- 2.5 to the s, times 2 to the 12 -/
def wt (s : Nat) : Nat := 5 ^ s * 2 ^ (12 - s)
theorem wt_step0 : ∀ s, s < 13 → ∀ d, d < 14 → 2 ≤ d → s + d ≤ 13 → wt s * (2 * d + 1) ≤ 2 * wt (s + d - 1) := by decide +kernel
theorem wt_step {s d : Nat} (h2 : 2 ≤ d) (h : s + d ≤ 13) : wt s * (2 * d + 1) ≤ 2 * wt (s + d - 1) := wt_step0 s (by omega) d (by omega) h2 h
theorem wt_two0 : ∀ s, s < 13 → ∀ e, e < 13 → s < e → 2 * wt s ≤ wt e := by decide +kernel
theorem wt_two {s e : Nat} (h : s < e) (he : e < 13) : 2 * wt s ≤ wt e := wt_two0 s (by omega) e he h
theorem wt_first0 : ∀ d, d < 14 → 2 ≤ d → ∀ s, s < 13 → d - 1 ≤ s → 4096 * (d + 1) ≤ 2 * wt s := by decide +kernel
theorem wt_mono0 : ∀ s, s < 13 → ∀ e, e < 13 → s ≤ e → wt s ≤ wt e := by decide +kernel
/-- the rows' bits and one: here's at most half of what there's may be -/
structure Gr (B lh ah at' : Nat) : Prop where
  len : 1 ≤ lh ∧ lh ≤ 13
  t : 4096 * at' ≤ 2 * B * wt (13 - lh)
  h : 4096 * (2 * ah) ≤ 2 * B * wt (13 - lh)
theorem Gr.step {B lh lt ah at' : Nat} (g : Gr B lh ah at') (h1 : 1 ≤ lt) (h2 : lt < lh) : Gr B lt at' (ah + (lh + 1 - lt) * at') := by
  obtain ⟨⟨g1, g2⟩, gt, gh⟩ := g
  refine ⟨⟨h1, by omega⟩, ?_, ?_⟩
  · obtain ⟨d, hd⟩ : ∃ d, d = lh + 1 - lt := ⟨_, rfl⟩
    rw [← hd]
    have w := wt_step (s := 13 - lh) (d := d) (by omega) (by omega)
    rw [show 13 - lh + d - 1 = 13 - lt by omega] at w
    have e1 : 4096 * (ah + d * at') * 2 = 4096 * (2 * ah) + 2 * d * (4096 * at') := by
      rw [Nat.mul_add, Nat.add_mul]
      have : 4096 * (d * at') * 2 = 2 * d * (4096 * at') := by
        clear gt gh w
        grind
      omega
    have e2 := Nat.mul_le_mul_left (2 * d) gt
    have e3 := Nat.mul_le_mul_left (2 * B) w
    have e4 : 2 * d * (2 * B * wt (13 - lh)) + 2 * B * wt (13 - lh) = 2 * B * (wt (13 - lh) * (2 * d + 1)) := by
      rw [Nat.mul_add, Nat.mul_one, Nat.mul_add]
      simp [Nat.mul_comm, Nat.mul_left_comm]
    have e5 : 2 * B * (2 * wt (13 - lt)) = 2 * (2 * B * wt (13 - lt)) := by
      simp [Nat.mul_comm, Nat.mul_left_comm]
    omega
  · have w := wt_two (s := 13 - lh) (e := 13 - lt) (by omega) (by omega)
    have e3 := Nat.mul_le_mul_left (2 * B) w
    have e5 : 2 * B * (2 * wt (13 - lh)) = 2 * (2 * B * wt (13 - lh)) := by
      simp [Nat.mul_comm, Nat.mul_left_comm]
    omega
end Pa

namespace Pa
/-! ### bits of meet's turns -/
/-- bits: of the rows, of ones and others, of the numbers -/
structure BhB (L1 L2 A1 A2 c1 c2 d1 d2 : Nat) : Prop where
  l : L1 ≤ 40 ∧ L2 ≤ 40
  b1 : A1 + (L1 + 2 - L2) * (A2 + 1) + A2 + 1 ≤ 134217728
  b2 : (L1 + 1 - L2) * A2 + 1 + d2 + c1 ≤ 134217728
  b3 : A1 + (L1 + 1 - L2) * (A2 + 1) + d1 + c2 ≤ 134217728
  b4 : d1 + d2 + (A1 + (L1 + 1 - L2) * (A2 + 1)) ≤ 134217728
def nA (L1 L2 A1 A2 : Nat) : Nat := A1 + (L1 + 1 - L2) * (A2 + 1)
def nC (L1 L2 A1 A2 c1 c2 d1 d2 : Nat) : Nat := max ((L1 + 1 - L2) * A2 + 1 + d2 + c1) (nA L1 L2 A1 A2 + d1 + c2 + 6) + 1
def nD (L1 L2 A1 A2 d1 d2 : Nat) : Nat := d1 + d2 + nA L1 L2 A1 A2
/-- meet may go on from here; E is kept of what it ends with -/
inductive Go (E : Nat → Nat → Nat → Nat → Prop) : Nat → Nat → Nat → Nat → Nat → Nat → Nat → Nat → Prop
  | mk {L1 L2 A1 A2 c1 c2 d1 d2 : Nat} : BhB L1 L2 A1 A2 c1 c2 d1 d2 → E L2 A2 c2 d2 → (∀ L, 1 ≤ L → L < L2 → Go E L2 L A2 (nA L1 L2 A1 A2) c2 (nC L1 L2 A1 A2 c1 c2 d1 d2) d2 (nD L1 L2 A1 A2 d1 d2)) → Go E L1 L2 A1 A2 c1 c2 d1 d2
/-- what meet ends with, of bits -/
def EE (L A c d : Nat) : Prop := 1 ≤ L ∧ L ≤ 13 ∧ ∃ a, A + 1 ≤ a ∧ 4096 * a ≤ 356 * wt (12 - L) ∧ c ≤ 4 * a ∧ d ≤ 4 * a
theorem wt_top : ∀ s, s < 13 → wt s ≤ 244140625 := by decide +kernel
theorem Go.of : ∀ lt lh ah at' A1 A2 c1 c2 d1 d2 : Nat, 1 ≤ lt → lt < lh → Gr 178 lh ah at' → 2 * ah ≤ at' → 16 ≤ ah → A1 + 1 ≤ ah → A2 + 1 ≤ at' → c1 ≤ 4 * ah → c2 ≤ 4 * at' → d1 ≤ 4 * ah → d2 ≤ 4 * at' → Go EE lh lt A1 A2 c1 c2 d1 d2 := by
  intro lt
  induction lt using Nat.strongRecOn with
  | _ lt ih =>
    intro lh ah at' A1 A2 c1 c2 d1 d2 h1 h2 g hab h16 hA1 hA2 hc1 hc2 hd1 hd2
    have g' := g.step h1 h2
    obtain ⟨d, hd⟩ : ∃ d, d = lh + 1 - lt := ⟨_, rfl⟩
    have hlt := g'.len
    have hlh := g.len
    rw [← hd] at g'
    have hd2' : 2 ≤ d := by omega
    have m1 : d * (A2 + 1) ≤ d * at' := Nat.mul_le_mul_left d hA2
    have m2 : 2 * at' ≤ d * at' := Nat.mul_le_mul_right at' hd2'
    have m3 : d * (A2 + 1) = d * A2 + d := Nat.mul_succ d A2
    have m4 : (lh + 2 - lt) * (A2 + 1) = d * (A2 + 1) + (A2 + 1) := by
      rw [show lh + 2 - lt = d + 1 by omega, Nat.succ_mul]
    have top := g'.t
    have w := wt_top (13 - lt) (by omega)
    have hE : EE lt A2 c2 d2 := by
      refine ⟨h1, by omega, at', hA2, ?_, hc2, hd2⟩
      have t := g.t
      have w2 := wt_mono0 (13 - lh) (by omega) (12 - lt) (by omega) (by omega)
      have := Nat.mul_le_mul_left (2 * 178) w2
      omega
    have w3 := Nat.mul_le_mul_left (2 * 178) w
    refine .mk ⟨by omega, ?_, ?_, ?_, ?_⟩ hE fun L k1 k2 => ?_
    · rw [m4]; omega
    · rw [← hd]; omega
    · rw [← hd]; omega
    · rw [← hd]; omega
    · refine ih L k2 lt at' (ah + d * at') A2 _ c2 _ d2 _ k1 k2 g' (by omega) (by omega) hA2 ?_ hc2 ?_ hd2 ?_
      · unfold nA; rw [← hd]; omega
      · unfold nC nA; rw [← hd]; omega
      · unfold nD nA; rw [← hd]; omega
theorem wt_low : ∀ s, s < 13 → 4096 ≤ wt s := by decide +kernel
theorem wt_low6 : ∀ s, s < 13 → 6 ≤ s → 1000000 ≤ wt s := by decide +kernel
theorem Go.start {L1 L2 A1 A2 B : Nat} (hB : (L1 ≤ 13 ∧ L2 ≤ 13 ∧ B ≤ 178) ∨ (L1 ≤ 7 ∧ L2 ≤ 7 ∧ B ≤ 300)) (h16 : 16 ≤ B) (hA1 : A1 + 1 ≤ B) (hA2 : A2 + 1 ≤ B) (h2 : 1 ≤ L2) : Go EE L1 L2 A1 A2 1 1 A1 A2 := by
  obtain ⟨d, hd⟩ : ∃ d, d = L1 + 1 - L2 := ⟨_, rfl⟩
  have hdl : d ≤ 13 := by omega
  have hB3 : B ≤ 300 := by omega
  have m1 : d * (A2 + 1) ≤ d * B := Nat.mul_le_mul_left d hA2
  have m2 : d * B ≤ 13 * 300 := Nat.mul_le_mul hdl hB3
  have m3 : d * (A2 + 1) = d * A2 + d := Nat.mul_succ d A2
  have m4 : (L1 + 2 - L2) * (A2 + 1) ≤ 14 * 300 := Nat.mul_le_mul (by omega) (by omega)
  have m5 : (d + 1) * B = d * B + B := Nat.succ_mul d B
  have w0 := wt_low (13 - L2) (by omega)
  have w1 := wt_low (12 - L2) (by omega)
  refine .mk ⟨by omega, by omega, by rw [← hd]; omega, by rw [← hd]; omega, by rw [← hd]; omega⟩ ⟨h2, by omega, B, hA2, by omega, by omega, by omega⟩ fun L k1 k2 => ?_
  have hg : Gr 178 L2 B (max (2 * B) ((d + 1) * B)) := by
    have w2 : L2 ≤ 7 → 1000000 ≤ wt (13 - L2) := fun h => wt_low6 _ (by omega) (by omega)
    have w3 : 4096 * (2 * B) ≤ 2 * 178 * wt (13 - L2) := by
      rcases hB with ⟨b1, b2, b3⟩ | ⟨b1, b2, b3⟩
      · omega
      · have := w2 b2
        omega
    refine ⟨by omega, ?_, w3⟩
    by_cases hd1 : d ≤ 1
    · have : (d + 1) * B ≤ 2 * B := Nat.mul_le_mul_right B (by omega)
      omega
    · have e1 : max (2 * B) ((d + 1) * B) = (d + 1) * B := by
        have : 2 * B ≤ (d + 1) * B := Nat.mul_le_mul_right B (by omega)
        omega
      rw [e1]
      rcases hB with ⟨b1, b2, b3⟩ | ⟨b1, b2, b3⟩
      · have f := wt_first0 d (by omega) (by omega) (13 - L2) (by omega) (by omega)
        have f2 := Nat.mul_le_mul_right B f
        have f3 := Nat.mul_le_mul_left (2 * wt (13 - L2)) b3
        have f4 : 4096 * ((d + 1) * B) = 4096 * (d + 1) * B := (Nat.mul_assoc _ _ _).symm
        omega
      · have := w2 b2
        omega
  refine Go.of L L2 B (max (2 * B) ((d + 1) * B)) A2 _ 1 _ A2 _ k1 k2 hg (by omega) h16 hA2 ?_ (by omega) ?_ (by omega) ?_
  · unfold nA; rw [← hd]; omega
  · unfold nC nA; rw [← hd]; omega
  · unfold nD nA; rw [← hd]; omega
/-! ### what shared, begun and behind tell -/
def shBy (xs ys : List Int) (m : Int) : Int := ((Nat.gcd m.natAbs (Nat.gcd (cont xs) (cont ys)) : Nat) : Int)
theorem shBy_ne {xs ys : List Int} {m : Int} (hm : 1 ≤ m) : shBy xs ys m ≠ 0 := by
  unfold shBy
  have := Nat.gcd_pos_of_pos_left (Nat.gcd (cont xs) (cont ys)) (show 0 < m.natAbs by omega)
  omega
def sgnc (xs : List Int) : Int := if sgc xs < 0 then -1 else 1
def bgU (first : Bool) (xs : List Int) : List Int := if xs = [] then [] else if first = true then [sgnc xs] else []
def bgN (xs : List Int) : Int := if xs = [] then 1 else (cont xs : Int)
/-- what behind tells -/
def Bh (x u v x2 u2 v2 : List Int) (n n2 m : Int) (q r x' u' v' : List Int) (n' : Int) : Prop :=
  (r = [] ∧ x' = [] ∧ u' = [] ∧ v' = [] ∧ n' = 1) ∨
  (r ≠ [] ∧ ∃ ones others N, ones = minus (scaled u (sgnr r * m * n2)) (tm (scaled q (sgnr r * n)) u2) ∧ others = minus (scaled v (sgnr r * m * n2)) (tm (scaled q (sgnr r * n)) v2) ∧ N = n * n2 * (cont r : Int) ∧
    x' = simp' r ∧ u' = divBy ones (shBy ones others N) ∧ v' = divBy others (shBy ones others N) ∧ n' = N.fdiv (shBy ones others N))
theorem shBy_pos {xs ys : List Int} {m : Int} (hm : 1 ≤ m) : 0 < shBy xs ys m := by
  unfold shBy
  have := Nat.gcd_pos_of_pos_left (Nat.gcd (cont xs) (cont ys)) (show 0 < m.natAbs by omega)
  omega
theorem shBy_m (xs ys : List Int) (m : Int) : shBy xs ys m ∣ m := by
  unfold shBy
  exact Int.ofNat_dvd_left.mpr (Nat.gcd_dvd_left _ _)
theorem shBy_x {xs ys : List Int} {m : Int} : ∀ y ∈ xs, shBy xs ys m ∣ y := fun y hy => by
  unfold shBy
  exact Int.dvd_trans (Int.natCast_dvd_natCast.mpr (Nat.dvd_trans (Nat.gcd_dvd_right _ _) (Nat.gcd_dvd_left _ _))) (cont_dvd hy)
theorem shBy_y {xs ys : List Int} {m : Int} : ∀ y ∈ ys, shBy xs ys m ∣ y := fun y hy => by
  unfold shBy
  exact Int.dvd_trans (Int.natCast_dvd_natCast.mpr (Nat.dvd_trans (Nat.gcd_dvd_right _ _) (Nat.gcd_dvd_right _ _))) (cont_dvd hy)
theorem Bd.fdiv {a : Nat} {m g : Int} (h : Bd a m) (hg : g ≠ 0) (hd : g ∣ m) : Bd a (m.fdiv g) := by
  have e := fdiv_of_dvd hg hd
  have e2 : g.natAbs * (m.fdiv g).natAbs = m.natAbs := by rw [← Int.natAbs_mul, e]
  have : 1 * (m.fdiv g).natAbs ≤ g.natAbs * (m.fdiv g).natAbs := Nat.mul_le_mul_right _ (by omega)
  show (m.fdiv g).natAbs < 2 ^ a
  have h' : m.natAbs < 2 ^ a := h
  omega
theorem Bd.sgnr {a : Nat} {m : Int} (r : List Int) (h : Bd a m) : Bd a (sgnr r * m) := by
  unfold Pa.sgnr
  split
  · rw [show (-1 : Int) * m = -m by omega]; exact h.neg
  · rw [Int.one_mul]; exact h
theorem Cb.nil (A B : List Int) : Cb A B [] [] [] 1 := ⟨by decide, by rw [S_nil]; grind, tr_nil, tr_nil, tr_nil, fun h => absurd rfl h⟩
theorem tr_one {a : Int} (h : a ≠ 0) : Tr [a] := tr_of_last (ys := []) h
theorem sgnr_ne (xs : List Int) : sgnr xs ≠ 0 := by unfold sgnr; split <;> decide
theorem Cb.begunL {A : List Int} (B : List Int) (hA : Tr A) : Cb A B (simp' A) (bgU true A) (bgU false A) (bgN A) := by
  unfold bgU bgN
  by_cases h : A = []
  · subst h; rw [if_pos rfl, if_pos rfl, if_pos rfl]; exact Cb.nil _ _
  · rw [if_neg h, if_neg h, if_neg h, if_pos rfl, if_neg (by decide)]
    have hc := cont_pos hA h
    refine ⟨by omega, ?_, simp_tr hA, tr_one (sgnr_ne A), tr_nil, fun _ => ⟨simp_cont hA h, ?_⟩⟩
    · rw [cont_simp hA, S_one, S_nil, show sgnc A = sgnr A from rfl]; grind
    · have := simp_last hA h
      rw [List.getLast?_eq_some_getLast (simp_ne h)]
      exact this
theorem Cb.begunR {B : List Int} (A : List Int) (hB : Tr B) : Cb A B (simp' B) (bgU false B) (bgU true B) (bgN B) := by
  unfold bgU bgN
  by_cases h : B = []
  · subst h; rw [if_pos rfl, if_pos rfl, if_pos rfl]; exact Cb.nil _ _
  · rw [if_neg h, if_neg h, if_neg h, if_pos rfl, if_neg (by decide)]
    have hc := cont_pos hB h
    refine ⟨by omega, ?_, simp_tr hB, tr_nil, tr_one (sgnr_ne B), fun _ => ⟨simp_cont hB h, ?_⟩⟩
    · rw [cont_simp hB, S_one, S_nil, show sgnc B = sgnr B from rfl]; grind
    · have := simp_last hB h
      rw [List.getLast?_eq_some_getLast (simp_ne h)]
      exact this
theorem bgU_bd (b : Bool) (xs : List Int) : BdL 1 (bgU b xs) := by
  unfold bgU
  split
  · exact BdL.nil
  · split
    · intro y hy
      rw [List.mem_singleton.mp hy]
      unfold sgnc
      split <;> decide
    · exact BdL.nil
theorem bgU_len (b : Bool) (xs : List Int) : (bgU b xs).length ≤ 1 := by
  unfold bgU
  split
  · exact Nat.zero_le _
  · split
    · exact Nat.le_refl _
    · exact Nat.zero_le _
theorem bgN_bd {a : Nat} {xs : List Int} (ha : 1 ≤ a) (h : BdL a xs) : Bd a (bgN xs) := by
  unfold bgN
  split
  · exact Bd.mono (a := 1) (by unfold Bd; decide) ha
  · have := cont_bd h
    show ((cont xs : Int)).natAbs < 2 ^ a
    rw [Int.natAbs_natCast]
    exact this
/-- what one turn keeps -/
theorem Bh.bd {x u v x2 u2 v2 : List Int} {n n2 m : Int} {q r x' u' v' : List Int} {n' : Int} {A1 A2 c1 c2 d1 d2 K : Nat} (h : Bh x u v x2 u2 v2 n n2 m q r x' u' v' n') (hr : r ≠ []) (hd : Dv x x2 m q r) (hn : 1 ≤ n ∧ 1 ≤ n2)
    (hl : x.length ≤ 40 ∧ x2.length ≤ 40 ∧ x2 ≠ []) (hq : q.length ≤ x.length + 1 - x2.length) (kl : u.length ≤ K ∧ v.length ≤ K ∧ u2.length ≤ K ∧ v2.length ≤ K)
    (hb : BdL c1 u ∧ BdL c1 v ∧ BdL c2 u2 ∧ BdL c2 v2 ∧ Bd d1 n ∧ Bd d2 n2)
    (b1 : Bd ((x.length + 1 - x2.length) * A2 + 1) m) (b2 : BdL (nA x.length x2.length A1 A2) q) (b3 : BdL (nA x.length x2.length A1 A2) r) :
    x' = simp' r ∧ BdL (nA x.length x2.length A1 A2) x' ∧ BdL (nC x.length x2.length A1 A2 c1 c2 d1 d2) u' ∧ BdL (nC x.length x2.length A1 A2 c1 c2 d1 d2) v' ∧ Bd (nD x.length x2.length A1 A2 d1 d2) n' ∧ (u'.length ≤ K + 40 ∧ v'.length ≤ K + 40) := by
  obtain ⟨h1, h2⟩ | ⟨_, ones, others, N, e1, e2, eN, ex, eu, ev, en⟩ := h
  · exact absurd h1 hr
  have hcp := cont_pos hd.rt hr
  have hN : 1 ≤ N := by
    rw [eN]
    have a4 : 0 < n * n2 := Int.mul_pos (by omega) (by omega)
    have := Int.mul_pos a4 (show (0 : Int) < (cont r : Int) by omega)
    omega
  obtain ⟨hu, hv, hu2, hv2, hdn, hdn2⟩ := hb
  have hx2 : 1 ≤ x2.length := List.length_pos_iff.mpr hl.2.2
  have g0 := shBy_ne (xs := ones) (ys := others) hN
  have bN : Bd (nD x.length x2.length A1 A2 d1 d2) N := by
    rw [eN]
    refine (hdn.mul hdn2).mul ?_
    have := cont_bd b3
    show ((cont r : Int)).natAbs < _
    rw [Int.natAbs_natCast]
    exact this
  have qs : BdL (nA x.length x2.length A1 A2 + d1) (scaled q (sgnr r * n)) := (scaled_bd b2 (hdn.sgnr r)).mono (by omega)
  have ql : (scaled q (sgnr r * n)).length ≤ 2 ^ 6 := Nat.le_trans (scaled_len _ _) (by omega)
  have up : Bd ((x.length + 1 - x2.length) * A2 + 1 + d2) (sgnr r * m * n2) := (b1.sgnr r).mul hdn2
  have bo : ∀ w w2 : List Int, BdL c1 w → BdL c2 w2 → BdL (nC x.length x2.length A1 A2 c1 c2 d1 d2) (minus (scaled w (sgnr r * m * n2)) (tm (scaled q (sgnr r * n)) w2)) := fun w w2 hw hw2 => by
    unfold nC
    refine minus_bd ((scaled_bd hw up).mono ?_) ((tm_bd qs hw2 ql).mono ?_)
    · exact Nat.le_trans (Nat.le_refl _) (Nat.le_max_left _ _)
    · exact Nat.le_trans (by omega) (Nat.le_max_right _ _)
  have bl : ∀ w w2 : List Int, w.length ≤ K → w2.length ≤ K → (minus (scaled w (sgnr r * m * n2)) (tm (scaled q (sgnr r * n)) w2)).length ≤ K + 40 := fun w w2 hw hw2 => by
    have l1 := minus_len (scaled w (sgnr r * m * n2)) (tm (scaled q (sgnr r * n)) w2)
    have l2 := scaled_len w (sgnr r * m * n2)
    have l3 := tm_len (scaled q (sgnr r * n)) w2
    have l4 := scaled_len q (sgnr r * n)
    omega
  refine ⟨ex, by rw [ex]; exact simp_bd hd.rt b3, ?_, ?_, ?_, ?_, ?_⟩
  · rw [eu]; exact divBy_bd g0 shBy_x (by rw [e1]; exact bo _ _ hu hu2)
  · rw [ev]; exact divBy_bd g0 shBy_y (by rw [e2]; exact bo _ _ hv hv2)
  · rw [en]; exact bN.fdiv g0 (shBy_m _ _ _)
  · rw [eu, divBy_len, e1]; exact bl _ _ kl.1 kl.2.2.1
  · rw [ev, divBy_len, e2]; exact bl _ _ kl.2.1 kl.2.2.2
theorem Bh.cb {A B x u v x2 u2 v2 : List Int} {n n2 m : Int} {q r x' u' v' : List Int} {n' : Int} (h : Bh x u v x2 u2 v2 n n2 m q r x' u' v' n') (h1 : Cb A B x u v n) (h2 : Cb A B x2 u2 v2 n2) (hd : Dv x x2 m q r) : Cb A B x' u' v' n' := by
  obtain ⟨_, rfl, rfl, rfl, rfl⟩ | ⟨hr, ones, others, N, e1, e2, eN, ex, eu, ev, en⟩ := h
  · exact Cb.nil _ _
  have hcp := cont_pos hd.rt hr
  have hN : 1 ≤ N := by
    rw [eN]
    have a1 := h1.n1
    have a2 := h2.n1
    have a4 : 0 < n * n2 := Int.mul_pos (by omega) (by omega)
    have := Int.mul_pos a4 (show (0 : Int) < (cont r : Int) by omega)
    omega
  rw [ex, eu, ev, en]
  exact h1.step h2 hd hr e1 e2 eN (shBy_ne hN) shBy_x shBy_y (shBy_m _ _ _) (shBy_pos hN)
theorem Bh.sh {A B x u v x2 u2 v2 : List Int} {n n2 m : Int} {q r x' u' v' : List Int} {n' : Int} (h : Bh x u v x2 u2 v2 n n2 m q r x' u' v' n') (hs : Sh A B x x2) (hd : Dv x x2 m q r) : Sh A B x2 x' := by
  have e : x' = simp' r := by
    obtain ⟨rfl, rfl, _⟩ | ⟨_, _, _, _, _, _, _, ex, _⟩ := h
    · rfl
    · exact ex
  rw [e]
  exact hs.step hd
/-- what meet tells -/
structure Mt (A B x s t u v : List Int) (n : Int) : Prop where
  cb : Cb A B x u v n
  ne : x ≠ []
  w1 : Whole A x s
  w2 : Whole B x t
end Pa
namespace Pa
open Ser
theorem tr_map_mul {xs : List Int} {n : Int} (hn : n ≠ 0) (h : Tr xs) : Tr (xs.map fun x => n * x) := by
  rcases snoc_cases xs with rfl | ⟨ys, y, rfl⟩
  · exact tr_nil
  · have hy : y ≠ 0 := by simpa using tr_last h (by simp)
    rw [List.map_append]
    exact tr_of_last (Int.mul_ne_zero hn hy)
theorem sgc_self {xs : List Int} (h : cont xs = 1) (hl : 0 < xs.getLast?.getD 0) : sgc xs = 1 := by
  unfold sgc
  rw [if_neg (by omega), h]; rfl
theorem simp_self {xs : List Int} (h : cont xs = 1) (hl : 0 < xs.getLast?.getD 0) : simp' xs = xs := by
  unfold simp' divBy
  rw [sgc_self h hl]
  conv => rhs; rw [← List.map_id xs]
  refine List.map_congr_left fun x _ => ?_
  exact Int.fdiv_one x
theorem Mt.first {A B x s t u v : List Int} {n : Int} (h : Mt A B x s t u v n) (ha : Tr A) : tm x s = A := S_inj (tm_tr _ _) ha (by rw [S_tm, h.w1.2])
theorem Mt.second {A B x s t u v : List Int} {n : Int} (h : Mt A B x s t u v n) (hb : Tr B) : tm x t = B := S_inj (tm_tr _ _) hb (by rw [S_tm, h.w2.2])
theorem Mt.both {A B x s t u v : List Int} {n : Int} (h : Mt A B x s t u v n) : plus (tm u A) (tm v B) = x.map fun y => n * y := by
  have hn := h.cb.n1
  refine S_inj (plus_tr _ _) (tr_map_mul (by omega) h.cb.xt) ?_
  rw [S_plus, S_tm, S_tm, S_map_mul, h.cb.eq]
/-- bits of the answer, as the law's products want them -/
structure FtB (A B x s t u v : List Int) (n : Int) : Prop where
  b1 : ∃ g h, BdL g x ∧ BdL h s ∧ g + h ≤ 134217728
  b2 : ∃ g h, BdL g x ∧ BdL h t ∧ g + h ≤ 134217728
  b3 : ∃ g h, BdL g u ∧ BdL h A ∧ g + h ≤ 134217728
  b4 : ∃ g h, BdL g v ∧ BdL h B ∧ g + h ≤ 134217728
  b5 : ∃ g h, Bd g n ∧ BdL h x ∧ g + h ≤ 134217728
end Pa
namespace Pa
open Ser
theorem PD.trans {d f g : Ser} (h : PD d f) (h2 : PD f g) : PD d g := by
  obtain ⟨n, k, hk, e⟩ := h
  obtain ⟨m, j, hj, e2⟩ := h2
  refine ⟨n + m - 1, k * j, hk.mul hj, ?_⟩
  rw [e2, e]; grind
theorem PD.simp {xs : List Int} (h : Tr xs) : PD (S (simp' xs)) (S xs) := by
  rw [← S_simp h]
  exact (PD.refl _).C _
/-- the first of two rows that divide each other's ends -/
theorem Whole.lens {A g s : List Int} (h : Whole A g s) (hg : Tr g) (hgn : g ≠ []) (hA : A ≠ []) (ht : Tr A) : g.length ≤ A.length := by
  have hs : s ≠ [] := fun z => by
    have := h.2
    rw [z, S_nil] at this
    exact hA (S_zero_nil ht (by rw [this]; grind))
  have l := h.len hg hgn
  have : 0 < s.length := List.length_pos_iff.mpr hs
  have : 0 < g.length := List.length_pos_iff.mpr hgn
  omega
theorem wt_two2 : ∀ s, s < 11 → wt s ≤ 39062500 := by decide +kernel
/-- bits of meet's answer, from EE -/
theorem one_of_cont {g : List Int} (hl : g.length = 1) (hc : cont g = 1) (hp : 0 < g.getLast?.getD 0) : g = [1] := by
  obtain ⟨a, rfl⟩ := List.length_eq_one_iff.mp hl
  have e : cont [a] = a.natAbs := by
    show Nat.gcd a.natAbs 0 = a.natAbs
    exact Nat.gcd_zero_right _
  rw [e] at hc
  have hp' : 0 < a := hp
  have : a = 1 := by omega
  rw [this]
end Pa
namespace Pa
open Ser
/-- what is asked of the bits of what meet ends with -/
def MtQ (E : Nat → Nat → Nat → Nat → Prop) (xs ys : List Int) (A B : Nat) : Prop := ∀ (L a c d : Nat) (g : List Int), E L a c d → g.length = L → BdL a g → Tr g → g ≠ [] → cont g = 1 → 0 < g.getLast?.getD 0 → PD (S g) (S xs) → PD (S g) (S ys) →
  ∃ a', BdL a' g ∧ A + (xs.length + 2 - g.length) * (a' + 1) + a' + 1 ≤ 134217728 ∧ B + (ys.length + 2 - g.length) * (a' + 1) + a' + 1 ≤ 134217728
/-- bits of the answer's first three -/
def MtB (A B : Nat) (xs ys x s t : List Int) : Prop := ∃ a', BdL a' x ∧ A + (xs.length + 2 - x.length) * (a' + 1) + a' + 1 ≤ 134217728 ∧ B + (ys.length + 2 - x.length) * (a' + 1) + a' + 1 ≤ 134217728 ∧
  BdL (A + (xs.length + 1 - x.length) * (a' + 1)) s ∧ BdL (B + (ys.length + 1 - x.length) * (a' + 1)) t
/-- sizes that EE serves -/
def SzE (A B : List Int) (nb : Nat) : Prop := (A.length ≤ 13 ∧ B.length ≤ 13 ∧ nb ≤ 177) ∨ (A.length ≤ 7 ∧ B.length ≤ 7 ∧ nb ≤ 299)
theorem MtQ.ee {A B : List Int} {nb : Nat} (h : SzE A B nb) : MtQ EE A B nb nb := by
  rintro L a c d g ⟨h1, h13, aa, q1, q2, _, _⟩ hlen hb ht hne hc hp _ _
  have hl : A.length ≤ 13 ∧ B.length ≤ 13 ∧ nb ≤ 299 := by rcases h with h | h <;> omega
  by_cases hL : L = 1
  · have e := one_of_cont (by omega) hc hp
    subst e
    refine ⟨1, fun y hy => by rw [List.mem_singleton.mp hy]; exact (by decide : (1 : Int).natAbs < 2 ^ 1), ?_, ?_⟩
    · show nb + (A.length + 2 - 1) * (1 + 1) + 1 + 1 ≤ 134217728
      omega
    · show nb + (B.length + 2 - 1) * (1 + 1) + 1 + 1 ≤ 134217728
      omega
  · have w := wt_two2 (12 - L) (by omega)
    have ha : a + 1 ≤ 3400000 := by omega
    have m1 : (A.length + 2 - g.length) * (a + 1) ≤ 13 * 3400000 := Nat.mul_le_mul (by omega) ha
    have m2 : (B.length + 2 - g.length) * (a + 1) ≤ 13 * 3400000 := Nat.mul_le_mul (by omega) ha
    exact ⟨a, hb, by omega, by omega⟩
theorem FtB.of {A B x s t u v : List Int} {n : Int} {a c d nb : Nat} (he : EE x.length a c d) (hx : BdL a x) (hu : BdL c u) (hv : BdL c v) (hn : Bd d n) (hM : MtB nb nb A B x s t) (hA : BdL nb A) (hB : BdL nb B) (hnb : nb ≤ 299) : FtB A B x s t u v n := by
  obtain ⟨h1, h13, aa, q1, q2, q3, q4⟩ := he
  have w := wt_top (12 - x.length) (by omega)
  have ha : aa ≤ 21300000 := by omega
  obtain ⟨a', e1, e2, e3, e4, e5⟩ := hM
  have m1 : (A.length + 1 - x.length) * (a' + 1) ≤ (A.length + 2 - x.length) * (a' + 1) := Nat.mul_le_mul_right _ (by omega)
  have m2 : (B.length + 1 - x.length) * (a' + 1) ≤ (B.length + 2 - x.length) * (a' + 1) := Nat.mul_le_mul_right _ (by omega)
  exact ⟨⟨_, _, e1, e4, by omega⟩, ⟨_, _, e1, e5, by omega⟩, ⟨_, _, hu, hA, by omega⟩, ⟨_, _, hv, hB, by omega⟩, ⟨_, _, hn, hx, by omega⟩⟩
theorem Go.ee {A B : List Int} {nb : Nat} (h : SzE A B nb) (h16 : 16 ≤ nb) (hne : B ≠ []) : Go EE A.length B.length nb nb 1 1 nb nb := by
  have : 0 < B.length := List.length_pos_iff.mpr hne
  refine Go.start (B := nb + 1) ?_ (by omega) (by omega) (by omega) this
  rcases h with ⟨a, b, c⟩ | ⟨a, b, c⟩
  · exact .inl ⟨a, b, by omega⟩
  · exact .inr ⟨a, b, by omega⟩
theorem EE.ee {A B : List Int} {nb : Nat} (h : SzE A B nb) (hne : A ≠ []) : EE A.length nb 1 nb := by
  have : 0 < A.length := List.length_pos_iff.mpr hne
  have hl : A.length ≤ 13 ∧ B.length ≤ 13 ∧ nb ≤ 299 := by rcases h with h | h <;> omega
  have w := wt_low (12 - A.length) (by omega)
  exact ⟨this, hl.1, nb + 1, by omega, by omega, by omega, by omega⟩
end Pa

namespace Pa
/-! ### bits of meet's turns, for rows of any length up to l -/
structure Gr2 (l B lh ah at' : Nat) : Prop where
  len : 1 ≤ lh ∧ lh ≤ l ∧ l ≤ 13
  t : 4096 * at' ≤ 2 * B * wt (l - lh)
  h : 4096 * (2 * ah) ≤ 2 * B * wt (l - lh)
theorem Gr2.step {l B lh lt ah at' : Nat} (g : Gr2 l B lh ah at') (h1 : 1 ≤ lt) (h2 : lt < lh) : Gr2 l B lt at' (ah + (lh + 1 - lt) * at') := by
  obtain ⟨⟨g1, g2, g3⟩, gt, gh⟩ := g
  refine ⟨⟨h1, by omega, g3⟩, ?_, ?_⟩
  · obtain ⟨d, hd⟩ : ∃ d, d = lh + 1 - lt := ⟨_, rfl⟩
    rw [← hd]
    have w := wt_step (s := l - lh) (d := d) (by omega) (by omega)
    rw [show l - lh + d - 1 = l - lt by omega] at w
    have e1 : 4096 * (ah + d * at') * 2 = 4096 * (2 * ah) + 2 * d * (4096 * at') := by
      rw [Nat.mul_add, Nat.add_mul]
      have : 4096 * (d * at') * 2 = 2 * d * (4096 * at') := by
        clear gt gh w
        grind
      omega
    have e2 := Nat.mul_le_mul_left (2 * d) gt
    have e3 := Nat.mul_le_mul_left (2 * B) w
    have e4 : 2 * d * (2 * B * wt (l - lh)) + 2 * B * wt (l - lh) = 2 * B * (wt (l - lh) * (2 * d + 1)) := by
      rw [Nat.mul_add, Nat.mul_one, Nat.mul_add]
      simp [Nat.mul_comm, Nat.mul_left_comm]
    have e5 : 2 * B * (2 * wt (l - lt)) = 2 * (2 * B * wt (l - lt)) := by
      simp [Nat.mul_comm, Nat.mul_left_comm]
    omega
  · have w := wt_two (s := l - lh) (e := l - lt) (by omega) (by omega)
    have e3 := Nat.mul_le_mul_left (2 * B) w
    have e5 : 2 * B * (2 * wt (l - lh)) = 2 * (2 * B * wt (l - lh)) := by
      simp [Nat.mul_comm, Nat.mul_left_comm]
    omega
/-- what meet ends with, of bits -/
def E2 (L A c d : Nat) : Prop := c ≤ 66000000 ∧ d ≤ 66000000 ∧ A ≤ 66000000
theorem wt_half : ∀ s, s < 13 → ∀ e, e < 13 → s < e → 2 * wt s ≤ wt e := wt_two0
theorem Go2.of {l B : Nat} (hB : 2 * B * wt (l - 1) ≤ 4096 * 33000000) : ∀ lt lh ah at' A1 A2 c1 c2 d1 d2 : Nat, 1 ≤ lt → lt < lh → Gr2 l B lh ah at' → 2 * ah ≤ at' → 16 ≤ ah → A1 + 1 ≤ ah → A2 + 1 ≤ at' → c1 ≤ 4 * ah → c2 ≤ 4 * at' → d1 ≤ 4 * ah → d2 ≤ 4 * at' → Go E2 lh lt A1 A2 c1 c2 d1 d2 := by
  intro lt
  induction lt using Nat.strongRecOn with
  | _ lt ih =>
    intro lh ah at' A1 A2 c1 c2 d1 d2 h1 h2 g hab h16 hA1 hA2 hc1 hc2 hd1 hd2
    have g' := g.step h1 h2
    obtain ⟨d, hd⟩ : ∃ d, d = lh + 1 - lt := ⟨_, rfl⟩
    have hlt := g'.len
    have hlh := g.len
    rw [← hd] at g'
    have hd2' : 2 ≤ d := by omega
    have m1 : d * (A2 + 1) ≤ d * at' := Nat.mul_le_mul_left d hA2
    have m2 : 2 * at' ≤ d * at' := Nat.mul_le_mul_right at' hd2'
    have m3 : d * (A2 + 1) = d * A2 + d := Nat.mul_succ d A2
    have m4 : (lh + 2 - lt) * (A2 + 1) = d * (A2 + 1) + (A2 + 1) := by
      rw [show lh + 2 - lt = d + 1 by omega, Nat.succ_mul]
    have top := g'.t
    have w := wt_mono0 (l - lt) (by omega) (l - 1) (by omega) (by omega)
    have w2 := wt_half (l - lh) (by omega) (l - 1) (by omega) (by omega)
    have w3 := Nat.mul_le_mul_left (2 * B) w
    have w4 := Nat.mul_le_mul_left (2 * B) w2
    have w5 : 2 * B * (2 * wt (l - lh)) = 2 * (2 * B * wt (l - lh)) := by
      simp [Nat.mul_comm, Nat.mul_left_comm]
    have ht := g.t
    have hat : at' ≤ 16500000 := by omega
    refine .mk ⟨by omega, ?_, ?_, ?_, ?_⟩ ⟨by omega, by omega, by omega⟩ fun L k1 k2 => ?_
    · rw [m4]; omega
    · rw [← hd]; omega
    · rw [← hd]; omega
    · rw [← hd]; omega
    · refine ih L k2 lt at' (ah + d * at') A2 _ c2 _ d2 _ k1 k2 g' (by omega) (by omega) hA2 ?_ hc2 ?_ hd2 ?_
      · unfold nA; rw [← hd]; omega
      · unfold nC nA; rw [← hd]; omega
      · unfold nD nA; rw [← hd]; omega
theorem Go2.start {l L1 L2 A1 A2 B : Nat} (hl : l ≤ 13) (h1 : L1 ≤ l) (h2 : L2 ≤ l) (hB : 2 * B * wt (l - 1) ≤ 4096 * 33000000) (h16 : 16 ≤ B) (hA1 : A1 + 1 ≤ B) (hA2 : A2 + 1 ≤ B) (hp : 1 ≤ L2) : Go E2 L1 L2 A1 A2 1 1 A1 A2 := by
  obtain ⟨d, hd⟩ : ∃ d, d = L1 + 1 - L2 := ⟨_, rfl⟩
  have m1 : d * (A2 + 1) ≤ d * B := Nat.mul_le_mul_left d hA2
  have m3 : d * (A2 + 1) = d * A2 + d := Nat.mul_succ d A2
  have m4 : (L1 + 2 - L2) * (A2 + 1) ≤ (d + 1) * B := Nat.mul_le_mul (by omega) hA2
  have m5 : (d + 1) * B = d * B + B := Nat.succ_mul d B
  have w0 := wt_low (l - L2) (by omega)
  have w3 : 4096 * (2 * B) ≤ 2 * B * wt (l - L2) := by
    have := Nat.mul_le_mul_left (2 * B) w0
    omega
  have hg : Gr2 l B L2 B (max (2 * B) ((d + 1) * B)) := by
    refine ⟨by omega, ?_, w3⟩
    by_cases hd1 : d ≤ 1
    · have : (d + 1) * B ≤ 2 * B := Nat.mul_le_mul_right B (by omega)
      omega
    · have e1 : max (2 * B) ((d + 1) * B) = (d + 1) * B := by
        have : 2 * B ≤ (d + 1) * B := Nat.mul_le_mul_right B (by omega)
        omega
      rw [e1]
      have f := wt_first0 d (by omega) (by omega) (l - L2) (by omega) (by omega)
      have f2 := Nat.mul_le_mul_right B f
      have f4 : 4096 * ((d + 1) * B) = 4096 * (d + 1) * B := (Nat.mul_assoc _ _ _).symm
      have f5 : 2 * wt (l - L2) * B = 2 * B * wt (l - L2) := by rw [Nat.mul_assoc, Nat.mul_comm (wt (l - L2)), ← Nat.mul_assoc]
      omega
  have w6 := wt_mono0 (l - L2) (by omega) (l - 1) (by omega) (by omega)
  have w7 := Nat.mul_le_mul_left (2 * B) w6
  have ht := hg.t
  refine .mk ⟨by omega, by omega, by rw [← hd]; omega, by rw [← hd]; omega, by rw [← hd]; omega⟩ ⟨by omega, by omega, by omega⟩ fun L k1 k2 => ?_
  refine Go2.of hB L L2 B (max (2 * B) ((d + 1) * B)) A2 _ 1 _ A2 _ k1 k2 hg (by omega) h16 hA2 ?_ (by omega) ?_ (by omega) ?_
  · unfold nA; rw [← hd]; omega
  · unfold nC nA; rw [← hd]; omega
  · unfold nD nA; rw [← hd]; omega
end Pa

namespace Pa
open Ser
/-! ### values at a place -/
/-- the value of the first n numbers -/
def sv (a : Int) : Nat → Ser → Int
  | 0, _ => 0
  | n + 1, f => f 0 + a * sv a n (tail f)
theorem sv_add (a : Int) : ∀ (n : Nat) (f g : Ser), sv a n (f + g) = sv a n f + sv a n g
  | 0, _, _ => rfl
  | n + 1, f, g => by
    show (f + g) 0 + a * sv a n (tail (f + g)) = (f 0 + a * sv a n (tail f)) + (g 0 + a * sv a n (tail g))
    rw [tail_add, sv_add a n, add_at, Int.mul_add]; omega
theorem sv_sm (a c : Int) : ∀ (n : Nat) (f : Ser), sv a n (sm c f) = c * sv a n f
  | 0, _ => (Int.mul_zero _).symm
  | n + 1, f => by
    show c * f 0 + a * sv a n (sm c (tail f)) = c * (f 0 + a * sv a n (tail f))
    rw [sv_sm a c n, Int.mul_add, Int.mul_left_comm]
theorem sv_out (a : Int) : ∀ (n : Nat) (f : Ser), Fin 0 f → sv a n f = 0
  | 0, _, _ => rfl
  | n + 1, f, h => by
    show f 0 + a * sv a n (tail f) = 0
    rw [sv_out a n (tail f) (fun i _ => h (i + 1) (Nat.zero_le _)), h 0 (Nat.zero_le _)]; simp
theorem sv_more (a : Int) : ∀ (n m : Nat) (f : Ser), Fin n f → n ≤ m → sv a m f = sv a n f
  | 0, m, f, h, _ => sv_out a m f h
  | n + 1, 0, f, h, hm => by omega
  | n + 1, m + 1, f, h, hm => by
    show f 0 + a * sv a m (tail f) = f 0 + a * sv a n (tail f)
    rw [sv_more a n m (tail f) (fun i hi => h (i + 1) (by omega)) (by omega)]
theorem tail_S (x : Int) (xs : List Int) : tail (S (x :: xs)) = S xs := rfl
theorem pval_sv (a : Int) : ∀ xs : List Int, pval xs a = sv a xs.length (S xs)
  | [] => rfl
  | x :: xs => by
    show x + a * pval xs a = S (x :: xs) 0 + a * sv a xs.length (tail (S (x :: xs)))
    rw [tail_S, pval_sv a xs]; rfl
theorem pval_svn {a : Int} {xs : List Int} {n : Nat} (h : xs.length ≤ n) : pval xs a = sv a n (S xs) := by
  rw [pval_sv, sv_more a xs.length n (S xs) (Fin.S xs) h]
theorem sv_mul (a : Int) : ∀ (n m N : Nat) (f g : Ser), Fin n f → Fin m g → n + m ≤ N → sv a N (f * g) = sv a N f * sv a N g
  | 0, m, N, f, g, hf, hg, hN => by
    rw [hf.eq_zero, sv_out a N 0 (Fin.zero 0), Int.zero_mul]
    refine sv_out a N _ fun i _ => ?_
    rw [zero_mul_at]
  | n + 1, m, 0, f, g, hf, hg, hN => by omega
  | n + 1, m, N + 1, f, g, hf, hg, hN => by
    show (f * g) 0 + a * sv a N (tail (f * g)) = (f 0 + a * sv a N (tail f)) * sv a (N + 1) g
    rw [tail_mul, sv_add, sv_sm, mul_zero_at]
    rw [sv_mul a n m N (tail f) g (fun i hi => hf (i + 1) (by omega)) hg (by omega)]
    have e : sv a N g = sv a (N + 1) g := by rw [sv_more a m N g hg (by omega), sv_more a m (N + 1) g hg (by omega)]
    rw [e]
    have e2 : sv a (N + 1) g = g 0 + a * sv a N (tail g) := rfl
    generalize sv a N (tail f) = F at *
    generalize sv a N (tail g) = G at *
    rw [e2]
    generalize f 0 = x
    generalize g 0 = y
    grind
theorem pval_add {a : Int} {xs ys zs : List Int} (h : S zs = S xs + S ys) : pval zs a = pval xs a + pval ys a := by
  rw [pval_svn (n := xs.length + ys.length + zs.length) (by omega), pval_svn (xs := xs) (n := xs.length + ys.length + zs.length) (by omega), pval_svn (xs := ys) (n := xs.length + ys.length + zs.length) (by omega), h, sv_add]
theorem pval_ext {a : Int} {xs ys : List Int} (h : S xs = S ys) : pval xs a = pval ys a := by
  rw [pval_svn (n := xs.length + ys.length) (by omega), pval_svn (xs := ys) (n := xs.length + ys.length) (by omega), h]
theorem pval_mul {a : Int} {xs ys zs : List Int} (h : S zs = S xs * S ys) : pval zs a = pval xs a * pval ys a := by
  rw [pval_svn (n := xs.length + ys.length + zs.length) (by omega), pval_svn (xs := xs) (n := xs.length + ys.length + zs.length) (by omega), pval_svn (xs := ys) (n := xs.length + ys.length + zs.length) (by omega), h]
  exact sv_mul a _ _ _ _ _ (Fin.S xs) (Fin.S ys) (by omega)
/-! ### numbers from values -/
/-- the quotient by x - a -/
def qd (a : Int) : List Int → List Int
  | [] => []
  | [_] => []
  | _ :: y :: r => pval (y :: r) a :: qd a (y :: r)
theorem qd_len (a : Int) : ∀ xs : List Int, (qd a xs).length = xs.length - 1
  | [] => rfl
  | [_] => rfl
  | _ :: y :: r => by
    show (qd a (y :: r)).length + 1 = _
    rw [qd_len a (y :: r)]; simp
theorem qd_eq (a z : Int) : ∀ xs : List Int, pval xs z = pval xs a + (z - a) * pval (qd a xs) z
  | [] => by simp [pval, qd]
  | [x] => by simp [pval, qd]
  | x :: y :: r => by
    have ih := qd_eq a z (y :: r)
    show x + z * pval (y :: r) z = (x + a * pval (y :: r) a) + (z - a) * (pval (y :: r) a + z * pval (qd a (y :: r)) z)
    rw [ih]
    generalize pval (y :: r) a = P
    generalize pval (qd a (y :: r)) z = Q
    grind
theorem qd_bd {a : Int} {K : Nat} : ∀ xs : List Int, (pval xs a).natAbs ≤ K → (∀ q ∈ qd a xs, q.natAbs ≤ K) → ∀ x ∈ xs, x.natAbs ≤ (1 + a.natAbs) * K
  | [], _, _ => fun x h => nomatch h
  | [x], h, _ => fun y hy => by
    rw [List.mem_singleton.mp hy]
    have e : pval [x] a = x := by simp [pval]
    rw [e] at h
    exact Nat.le_trans h (Nat.le_mul_of_pos_left _ (by omega))
  | x :: y :: r, h, hq => fun w hw => by
    have h1 : (pval (y :: r) a).natAbs ≤ K := hq _ List.mem_cons_self
    rcases List.mem_cons.mp hw with rfl | hw
    · have e : w = pval (w :: y :: r) a - a * pval (y :: r) a := by
        show w = (w + a * pval (y :: r) a) - a * pval (y :: r) a
        omega
      have m : (a * pval (y :: r) a).natAbs ≤ a.natAbs * K := by rw [Int.natAbs_mul]; exact Nat.mul_le_mul_left _ h1
      have e2 : w.natAbs ≤ (pval (w :: y :: r) a).natAbs + (a * pval (y :: r) a).natAbs := by omega
      rw [Nat.add_mul, Nat.one_mul]
      omega
    · exact qd_bd (y :: r) h1 (fun q hq' => hq q (List.mem_cons_of_mem _ hq')) w hw
/-- values at unlike places bound the numbers -/
theorem interp : ∀ (n : Nat) (xs as : List Int) (M : Nat), xs.length ≤ n → xs.length ≤ as.length → as.Nodup → (∀ a ∈ as, a.natAbs ≤ 30) → (∀ a ∈ as, (pval xs a).natAbs ≤ M) → ∀ x ∈ xs, x.natAbs ≤ M * 64 ^ n
  | 0, xs, as, M, hn, _, _, _, _ => fun x hx => by
    have : xs = [] := List.length_eq_zero_iff.mp (by omega)
    rw [this] at hx
    cases hx
  | n + 1, xs, [], M, hn, hl, _, _, _ => fun x hx => by
    have : xs = [] := List.length_eq_zero_iff.mp (by simpa using hl)
    rw [this] at hx
    cases hx
  | n + 1, xs, a :: as, M, hn, hl, hd, ha, hv => by
    obtain ⟨hna, hd'⟩ := List.nodup_cons.mp hd
    have hva := hv a List.mem_cons_self
    have ih := interp n (qd a xs) as (2 * M) (by rw [qd_len]; omega) (by rw [qd_len]; simp at hl; omega) hd' (fun b hb => ha b (List.mem_cons_of_mem _ hb)) fun b hb => by
      have hvb := hv b (List.mem_cons_of_mem _ hb)
      have e := qd_eq a b xs
      have hne : b - a ≠ 0 := fun z => hna (by rw [show a = b by omega]; exact hb)
      have e2 : ((b - a) * pval (qd a xs) b).natAbs ≤ 2 * M := by omega
      rw [Int.natAbs_mul] at e2
      exact Nat.le_trans (Nat.le_mul_of_pos_left _ (by omega)) e2
    have h64 : 0 < 64 ^ n := Nat.pow_pos (by decide)
    have hK : M ≤ 2 * M * 64 ^ n := Nat.le_trans (by omega) (Nat.le_mul_of_pos_right _ h64)
    have hb := qd_bd (K := 2 * M * 64 ^ n) xs (by omega) ih
    intro x hx
    refine Nat.le_trans (hb x hx) ?_
    have ha' := ha a List.mem_cons_self
    have m1 : (1 + a.natAbs) * (2 * M * 64 ^ n) ≤ 32 * (2 * M * 64 ^ n) := Nat.mul_le_mul_right _ (by omega)
    have m2 : 32 * (2 * M * 64 ^ n) = M * 64 ^ (n + 1) := by
      rw [Nat.pow_succ]
      generalize 64 ^ n = t
      rw [Nat.mul_comm t 64, ← Nat.mul_assoc, ← Nat.mul_assoc, ← Nat.mul_assoc]
      congr 1
      omega
    omega
theorem all_zero {xs as : List Int} (hl : xs.length ≤ as.length) (hd : as.Nodup) (ha : ∀ a ∈ as, a.natAbs ≤ 30) (hv : ∀ a ∈ as, pval xs a = 0) : ∀ x ∈ xs, x = 0 := fun x hx => by
  have := interp xs.length xs as 0 (Nat.le_refl _) hl hd ha (fun a h => by rw [hv a h]; exact Nat.le_refl _) x hx
  omega
/-- the places -/
def places : List Int := (List.range 25).map fun (k : Nat) => (k : Int) - 12
theorem places_nd : places.Nodup := by decide +kernel
theorem places_bd : ∀ a ∈ places, a.natAbs ≤ 12 := by decide +kernel
theorem filter_len {α : Type} (p : α → Bool) : ∀ l : List α, (l.filter p).length + (l.filter fun x => !p x).length = l.length
  | [] => rfl
  | x :: l => by
    have := filter_len p l
    rw [List.filter_cons, List.filter_cons]
    cases p x <;> simp <;> omega
/-- what divides a row that is not nought has no much greater numbers -/
theorem div_bd {F f q : List Int} {b : Nat} (ht : Tr F) (hne : F ≠ []) (hl : F.length ≤ 13) (hb : BdL b F) (h : S F = S f * S q) (hf : f.length ≤ 13) : BdL (b + 144) f := by
  have hz : (places.filter fun a => !(decide (pval F a ≠ 0))).length < 13 := Nat.lt_of_not_le fun hz => by
    have := all_zero (xs := F) (as := places.filter fun a => !(decide (pval F a ≠ 0))) (by omega) (places_nd.filter _) (fun a ha => Nat.le_trans (places_bd a (List.mem_filter.mp ha).1) (by decide))
      (fun a ha => by
        have h2 := (List.mem_filter.mp ha).2
        simpa using h2)
    exact tr_last ht hne (this _ (List.getLast_mem hne))
  have hfl := filter_len (fun a => decide (pval F a ≠ 0)) places
  have hpl : places.length = 25 := rfl
  have := interp 13 f (places.filter fun a => decide (pval F a ≠ 0)) (2 ^ (b + 65)) hf (by omega) (places_nd.filter _) (fun a ha => Nat.le_trans (places_bd a (List.mem_filter.mp ha).1) (by decide)) fun a ha => by
    have h1 := places_bd a (List.mem_filter.mp ha).1
    have h2 : pval F a ≠ 0 := by simpa using (List.mem_filter.mp ha).2
    have e := pval_mul (a := a) h
    have hB : Bd (b + (4 + 1) * F.length) (pval F a) := pval_bd (b := 4) (show a.natAbs < 2 ^ 4 by omega) hb
    have hB2 : Bd (b + 65) (pval F a) := hB.mono (by omega)
    have hB3 : (pval F a).natAbs < 2 ^ (b + 65) := hB2
    rw [e, Int.natAbs_mul] at hB3
    have hq : 0 < (pval q a).natAbs := Int.natAbs_pos.mpr fun z => h2 (by rw [e, z, Int.mul_zero])
    have := Nat.le_mul_of_pos_right (pval f a).natAbs hq
    omega
  intro x hx
  have h1 := this x hx
  have e : 2 ^ (b + 65) * 64 ^ 13 = 2 ^ (b + 143) := by
    rw [show (64 : Nat) ^ 13 = 2 ^ 78 by decide, ← Nat.pow_add]
  rw [e] at h1
  have e2 : 2 ^ (b + 144) = 2 ^ (b + 143) * 2 := Nat.pow_succ 2 (b + 143)
  have e3 : 0 < 2 ^ (b + 143) := Nat.pow_pos (by decide)
  show x.natAbs < 2 ^ (b + 144)
  omega
end Pa

namespace Pa
open Ser
/-! ### the slope -/
def der (f : Ser) : Ser := fun i => ((i : Int) + 1) * f (i + 1)
theorem der_at (f : Ser) (i : Nat) : der f i = ((i : Int) + 1) * f (i + 1) := rfl
theorem der_add (f g : Ser) : der (f + g) = der f + der g := ext fun i => by
  rw [add_at, der_at, der_at, der_at, add_at, Int.mul_add]
theorem der_zero : der 0 = 0 := ext fun i => by rw [der_at, zero_at, zero_at, Int.mul_zero]
theorem der_C (a : Int) : der (C a) = 0 := ext fun i => by rw [der_at, C_succ, Int.mul_zero, zero_at]
theorem der_Cmul (a : Int) (f : Ser) : der (C a * f) = C a * der f := ext fun i => by
  rw [C_mul, der_at, der_at, C_mul, Int.mul_left_comm]
theorem der_X (f : Ser) : der (X * f) = f + X * der f := ext fun i => by
  rw [der_at, X_mul_succ, add_at]
  cases i with
  | zero => rw [X_mul_zero]; simp
  | succ n => rw [X_mul_succ, der_at, Int.add_mul, Int.one_mul]; simp [Int.add_comm]
theorem ser_split (f : Ser) : f = C (f 0) + X * tail f := ext fun i => by
  rw [add_at]
  cases i with
  | zero => rw [X_mul_zero, C_zero]; simp
  | succ n => rw [X_mul_succ, C_succ, tail_at]; simp
theorem der_mul_at : ∀ (n : Nat) (f g : Ser), der (f * g) n = (der f * g + f * der g) n
  | n, f, g => by
    have e1 := ser_split f
    have hd : der f = tail f + X * der (tail f) := by
      conv => lhs; rw [e1]
      rw [der_add, der_C, der_X]
      grind
    have h1 : f * g = C (f 0) * g + X * (tail f * g) := by
      conv => lhs; rw [e1]
      grind
    have h2 : der (f * g) = C (f 0) * der g + (tail f * g + X * der (tail f * g)) := by
      rw [h1, der_add, der_Cmul, der_X]
    have h3 : der f * g + f * der g = C (f 0) * der g + (tail f * g + X * (der (tail f) * g + tail f * der g)) := by
      rw [hd]
      conv => lhs; rhs; rw [e1]
      grind
    rw [h2, h3]
    cases n with
    | zero => simp only [add_at, X_mul_zero]
    | succ n =>
      simp only [add_at, X_mul_succ]
      have := der_mul_at n (tail f) g
      rw [add_at] at this
      rw [this]
theorem der_mul (f g : Ser) : der (f * g) = der f * g + f * der g := ext fun n => der_mul_at n f g
theorem Fin.der {n : Nat} {f : Ser} (h : Fin n f) : Fin (n - 1) (der f) := fun i hi => by
  rw [der_at, h (i + 1) (by omega), Int.mul_zero]
/-- the slope of a row -/
def slp (xs : List Int) : List Int := (List.range (xs.length - 1)).map fun (i : Nat) => (1 + (i : Int)) * xs.getD (i + 1) 0
theorem slp_len (xs : List Int) : (slp xs).length = xs.length - 1 := by unfold slp; simp
theorem S_slp (xs : List Int) : S (slp xs) = der (S xs) := Ser.ext fun i => by
  rw [S_at, der_at, S_at]
  unfold slp
  rw [getD_map_range]
  split
  · rw [Int.add_comm]
  · rename_i h
    have : xs.getD (i + 1) 0 = 0 := S_out (xs := xs) (by omega)
    rw [this, Int.mul_zero]
theorem der_top {f : Ser} {d : Nat} (h : f (d + 1) ≠ 0) : der f d ≠ 0 := fun z => by
  rw [der_at] at z
  rcases Int.mul_eq_zero.mp z with z | z
  · omega
  · exact h z
/-- a slope that is nought -/
theorem der_nought {f : Ser} (h : der f = 0) : Fin 1 f := fun i hi => by
  have e := congrFun h (i - 1)
  rw [zero_at] at e
  obtain ⟨j, rfl⟩ : ∃ j, i = j + 1 := ⟨i - 1, by omega⟩
  exact Classical.byContradiction fun z => der_top z e
theorem slp_as (xs : List Int) : (List.range ((xs.length : Int) - 1).toNat).map (fun (k : Nat) => (1 + (k : Int)) * gat xs (1 + (k : Int))) = slp xs := by
  unfold slp
  rw [show ((xs.length : Int) - 1).toNat = xs.length - 1 by omega]
  refine List.map_congr_left fun k _ => ?_
  unfold gat
  rw [show (1 + (k : Int)).toNat = k + 1 by omega]
end Pa

namespace Pa
open Ser
/-! ### simple rows -/
structure Smp (xs : List Int) : Prop where
  t : Tr xs
  ne : xs ≠ []
  ct : cont xs = 1
  la : 0 < xs.getLast?.getD 0
theorem Smp.pos {xs : List Int} (h : Smp xs) : 0 < xs.length := List.length_pos_iff.mpr h.ne
theorem last_S (xs : List Int) : xs.getLast?.getD 0 = S xs (xs.length - 1) := by
  rw [S_at, List.getD_eq_getElem?_getD, List.getLast?_eq_getElem?]
theorem Smp.prim {xs : List Int} (h : Smp xs) : Prim (S xs) := prim_of_cont h.ct
theorem Smp.nz {xs : List Int} (h : Smp xs) : S xs ≠ 0 := S_ne_zero h.t h.ne
theorem Smp.simp {xs : List Int} (h : Tr xs) (hne : xs ≠ []) : Smp (simp' xs) := ⟨simp_tr h, simp_ne hne, simp_cont h hne, by
  rw [List.getLast?_eq_some_getLast (simp_ne hne)]; exact simp_last h hne⟩
theorem Smp.self {xs : List Int} (h : Smp xs) : simp' xs = xs := simp_self h.ct h.la
theorem Smp.one {xs : List Int} (h : Smp xs) (hl : xs.length ≤ 1) : xs = [1] := one_of_cont (by have := h.pos; omega) h.ct h.la
theorem Mt.smp {A B x s t u v : List Int} {n : Int} (h : Mt A B x s t u v n) : Smp x := ⟨h.cb.xt, h.ne, (h.cb.sm h.ne).1, (h.cb.sm h.ne).2⟩
/-- lengths and ends of a product -/
theorem prod_len {A x s : List Int} (hA : Tr A) (hx : Tr x) (hs : Tr s) (nx : x ≠ []) (ns : s ≠ []) (h : S A = S x * S s) : A ≠ [] ∧ A.length + 1 = x.length + s.length ∧ S A (A.length - 1) = S x (x.length - 1) * S s (s.length - 1) := by
  have px : 0 < x.length := List.length_pos_iff.mpr nx
  have ps : 0 < s.length := List.length_pos_iff.mpr ns
  obtain ⟨e, f⟩ := Fin.top (Fin.Sl nx) (Fin.Sl ns)
  rw [← h] at e f
  have z : S x (x.length - 1) * S s (s.length - 1) ≠ 0 := Int.mul_ne_zero (S_top hx nx) (S_top hs ns)
  have nA : A ≠ [] := fun h0 => by
    rw [h0, S_nil, zero_at] at e
    exact z e.symm
  have pA : 0 < A.length := List.length_pos_iff.mpr nA
  have l1 : x.length - 1 + (s.length - 1) < A.length := Nat.lt_of_not_le fun hh => by
    rw [S_out hh] at e
    exact z e.symm
  have l2 : A.length - 1 ≤ x.length - 1 + (s.length - 1) := Nat.le_of_not_lt fun hh => S_top hA nA (f _ (by omega))
  have l3 : A.length - 1 = x.length - 1 + (s.length - 1) := by omega
  exact ⟨nA, by omega, by rw [l3]; exact e⟩
theorem ne_of_prod {A x s : List Int} (hA : A ≠ []) (ht : Tr A) (h : S A = S x * S s) : x ≠ [] ∧ s ≠ [] := by
  refine ⟨fun z => hA (S_zero_nil ht ?_), fun z => hA (S_zero_nil ht ?_)⟩
  · rw [h, z, S_nil]; grind
  · rw [h, z, S_nil]; grind
theorem prim_factor {A x s : Ser} {n : Nat} (hs : Fin n s) (hA : Prim A) (h : A = x * s) : Prim s := fun d hd => by
  obtain ⟨g, e, _⟩ := take_out hs hd
  refine hA d fun i => ?_
  rw [h, e, show x * (C (d : Int) * g) = C (d : Int) * (x * g) by grind]
  exact dvd_C_mul i
theorem Smp.div {A x s : List Int} (hA : Smp A) (hx : Smp x) (hs : Tr s) (h : S A = S x * S s) : Smp s := by
  obtain ⟨_, ns⟩ := ne_of_prod hA.ne hA.t h
  obtain ⟨_, _, e⟩ := prod_len hA.t hx.t hs hx.ne ns h
  refine ⟨hs, ns, cont_of_prim (prim_factor (Fin.S s) hA.prim h), ?_⟩
  have a1 := hA.la
  have a2 := hx.la
  rw [last_S] at a1 a2 ⊢
  rw [e] at a1
  rw [Int.mul_comm] at a1
  exact Int.pos_of_mul_pos_left a1 a2
/-! ### Yun's turns -/
def FinE (f : Ser) : Prop := ∃ n, Fin n f
theorem FinE.S (xs : List Int) : FinE (Pa.S xs) := ⟨_, Fin.S xs⟩
theorem FinE.mul {f g : Ser} (h : FinE f) (h2 : FinE g) : FinE (f * g) := by
  obtain ⟨n, h⟩ := h
  obtain ⟨m, h2⟩ := h2
  exact ⟨_, h.mul h2⟩
theorem FinE.one : FinE 1 := ⟨1, by rw [one_eq]; exact Fin.C 1⟩
theorem FinE.pow {f : Ser} (h : FinE f) : ∀ n : Nat, FinE (f ^ n)
  | 0 => FinE.one
  | n + 1 => (FinE.pow h n).mul h
theorem PD.of {d f k : Ser} (hk : FinE k) (h : f = d * k) : PD d f := by
  obtain ⟨n, hk⟩ := hk
  exact ⟨n, k, hk, h⟩
theorem ser_pow_succ (f : Ser) (n : Nat) : f ^ (n + 1) = f ^ n * f := rfl
theorem ser_pow_zero (f : Ser) : f ^ 0 = 1 := rfl
theorem ser_mul_pow (f g : Ser) : ∀ n : Nat, (f * g) ^ n = f ^ n * g ^ n
  | 0 => by rw [ser_pow_zero, ser_pow_zero, ser_pow_zero]; grind
  | n + 1 => by
    rw [ser_pow_succ, ser_pow_succ, ser_pow_succ, ser_mul_pow f g n]; grind
theorem ser_one_pow : ∀ n : Nat, (1 : Ser) ^ n = 1
  | 0 => rfl
  | n + 1 => by rw [ser_pow_succ, ser_one_pow n]; grind
/-- the product of parts -/
def prodS : List (List Int × Nat) → Ser
  | [] => 1
  | (h, m) :: r => S h ^ m * prodS r
theorem prodS_app : ∀ (fo : List (List Int × Nat)) (h : List Int) (m : Nat), prodS (fo ++ [(h, m)]) = prodS fo * S h ^ m
  | [], h, m => by
    show S h ^ m * 1 = 1 * S h ^ m
    grind
  | (h', m') :: r, h, m => by
    show S h' ^ m' * prodS (r ++ [(h, m)]) = S h' ^ m' * prodS r * S h ^ m
    rw [prodS_app r h m]; grind
theorem FinE.prodS : ∀ fo : List (List Int × Nat), FinE (Pa.prodS fo)
  | [] => FinE.one
  | (h, m) :: r => ((FinE.S h).pow m).mul (FinE.prodS r)
/-- the parts found so far: simple, of the power one or more, counts rising from 1 -/
def Pts (k : Nat) (fo : List (List Int × Nat)) : Prop := (∀ p ∈ fo, Smp p.1 ∧ 2 ≤ p.1.length ∧ 1 ≤ p.2 ∧ p.2 < k) ∧ fo.Pairwise fun p q => p.2 < q.2
structure Yn (W L D G : List Int) (k : Nat) (fo : List (List Int × Nat)) : Prop where
  hL : Smp L
  tD : Tr D
  hG : Smp G
  eq : der (S G) * S L = S G * S D
  pr : S W = prodS fo * S L ^ k * S G
  k1 : 1 ≤ k
  pt : Pts k fo
theorem Yn.start {W x s t u v : List Int} {n : Int} (hW : Smp W) (h : Mt W (slp W) x s t u v n) : Yn W s (minus t (slp s)) x 1 [] := by
  have hx := h.smp
  have hs : Smp s := hW.div hx h.w1.1 h.w1.2
  refine ⟨hs, minus_tr _ _, hx, ?_, ?_, Nat.le_refl _, ⟨fun p hp => (nomatch hp), List.Pairwise.nil⟩⟩
  · have e1 : der (S W) = der (S x) * S s + S x * der (S s) := by rw [h.w1.2, der_mul]
    have e2 : der (S W) = S x * S t := by rw [← S_slp]; exact h.w2.2
    rw [S_minus, S_slp]
    rw [e1] at e2
    grind
  · rw [h.w1.2]
    show S x * S s = 1 * (S s) ^ 1 * S x
    rw [ser_pow_succ, ser_pow_zero]
    grind
theorem cancel_left {f : List Int} {g h : Ser} (hf : Tr f) (hne : f ≠ []) (hg : FinE g) (hh : FinE h) (e : S f * g = S f * h) : g = h := by
  obtain ⟨n, hg⟩ := hg
  obtain ⟨m, hh⟩ := hh
  exact mul_cancel' (Fin.S f) hg hh (S_ne_zero hf hne) e
/-- the turn's new part of what is left -/
theorem Yn.next {W L D G h l d u v : List Int} {n : Int} {k : Nat} {fo : List (List Int × Nat)} (y : Yn W L D G k fo) (m : Mt L D h l d u v n) : ∃ G2, S G = S l * S G2 ∧
    Yn W l (minus d (slp l)) G2 (k + 1) (if 1 < h.length then fo ++ [(h, k)] else fo) := by
  have hh := m.smp
  have hl : Smp l := y.hL.div hh m.w1.1 m.w1.2
  have e1 : S L = S h * S l := m.w1.2
  have e2 : S D = S h * S d := m.w2.2
  have fder : FinE (der (S G)) := ⟨_, (Fin.S G).der⟩
  have e3 : der (S G) * S l = S G * S d := by
    refine cancel_left hh.t hh.ne (fder.mul (FinE.S l)) ((FinE.S G).mul (FinE.S d)) ?_
    have e := y.eq
    rw [e1, e2] at e
    have r1 : S h * (der (S G) * S l) = der (S G) * (S h * S l) := by grind
    have r2 : S h * (S G * S d) = S G * (S h * S d) := by grind
    rw [r1, r2, e]
  have e4 : C n = S u * S l + S v * S d := by
    refine cancel_left hh.t hh.ne ⟨1, Fin.C n⟩ ⟨_, ((Fin.mul (Fin.S u) (Fin.S l)).mono (Nat.le_max_left _ _)).add ((Fin.mul (Fin.S v) (Fin.S d)).mono (Nat.le_max_right _ _))⟩ ?_
    have e := m.cb.eq
    rw [e1, e2] at e
    have r1 : S h * C n = C n * S h := by grind
    rw [r1, e]
    grind
  have pd : PD (S l) (S G) := by
    refine PD.out (m := n) (Fin.S l) hl.prim (by have := m.cb.n1; omega) ?_
    refine PD.of (k := S u * S G + S v * der (S G)) ?_ ?_
    · exact ⟨_, ((Fin.mul (Fin.S u) (Fin.S G)).mono (Nat.le_max_left _ _)).add ((Fin.mul (Fin.S v) (Fin.S G).der).mono (Nat.le_max_right _ _))⟩
    · rw [e4]
      have r1 : (S u * S l + S v * S d) * S G = S l * (S u * S G) + S v * (S G * S d) := by grind
      rw [r1, ← e3]
      grind
  obtain ⟨G2, t2, e5⟩ := pd.whole
  have hG2 : Smp G2 := y.hG.div hl t2 e5
  refine ⟨G2, e5, hl, minus_tr _ _, hG2, ?_, ?_, by omega, ?_⟩
  · refine cancel_left hl.t hl.ne (FinE.mul ⟨_, (Fin.S G2).der⟩ (FinE.S l)) ((FinE.S G2).mul (FinE.S _)) ?_
    rw [e5, der_mul] at e3
    rw [S_minus, S_slp]
    generalize der (S G2) = a at *
    generalize der (S l) = b at *
    generalize S G2 = c at *
    generalize S l = x at *
    generalize S d = z at *
    grind
  · have e6 : S W = prodS fo * S h ^ k * S l ^ (k + 1) * S G2 := by
      rw [y.pr, e1, ser_mul_pow, e5, ser_pow_succ]; grind
    split
    · rw [prodS_app, e6]
    · rename_i hc
      have := hh.one (by omega)
      rw [e6, this, S_one]
      have r : (C 1 : Ser) ^ k = 1 := ser_one_pow k
      rw [r]; grind
  · obtain ⟨p1, p2⟩ := y.pt
    split
    · rename_i hc
      refine ⟨fun p hp => ?_, ?_⟩
      · rcases List.mem_append.mp hp with hp | hp
        · obtain ⟨a, b, c, d⟩ := p1 p hp
          exact ⟨a, b, c, by omega⟩
        · rw [List.mem_singleton.mp hp]
          exact ⟨hh, hc, y.k1, Nat.lt_succ_self _⟩
      · refine List.pairwise_append.mpr ⟨p2, List.pairwise_singleton _ _, fun p hp q hq => ?_⟩
        rw [List.mem_singleton.mp hq]
        exact (p1 p hp).2.2.2
    · exact ⟨fun p hp => by obtain ⟨a, b, c, d⟩ := p1 p hp; exact ⟨a, b, c, by omega⟩, p2⟩
/-- the end -/
theorem Yn.end' {W L D G : List Int} {k : Nat} {fo : List (List Int × Nat)} (y : Yn W L D G k fo) (hl : L.length ≤ 1) : S W = prodS fo := by
  have e := y.eq
  have eL := y.hL.one hl
  rw [eL, S_one] at e
  have one : (C 1 : Ser) = 1 := rfl
  rw [one] at e
  have hD : D = [] := Classical.byContradiction fun hD => by
    obtain ⟨a, b⟩ := Fin.top (Fin.Sl y.hG.ne) (Fin.Sl hD)
    have z : S G (G.length - 1) * S D (D.length - 1) ≠ 0 := Int.mul_ne_zero (S_top y.hG.t y.hG.ne) (S_top y.tD hD)
    rw [← e] at a
    refine z (a.symm.trans ?_)
    rw [show der (S G) * 1 = der (S G) by grind]
    exact (Fin.S G).der _ (by omega)
  rw [hD, S_nil] at e
  have e0 : der (S G) = 0 := by
    have : der (S G) * 1 = der (S G) := by grind
    rw [← this, e]; grind
  have f1 := der_nought e0
  have gl : G.length ≤ 1 := Nat.le_of_not_lt fun hh => S_top y.hG.t y.hG.ne (f1 _ (by omega))
  rw [y.pr, y.hG.one gl, eL, S_one, one, ser_one_pow]
  grind
/-! ### sizes -/
theorem slp_bd {b : Nat} {xs : List Int} (h : BdL b xs) (hl : xs.length ≤ 16) : BdL (4 + b) (slp xs) := fun y hy => by
  obtain ⟨i, hi, rfl⟩ := List.mem_map.mp hy
  have := List.mem_range.mp hi
  exact Bd.mul (show (1 + (i : Int)).natAbs < 2 ^ 4 by omega) (h.at _)
theorem slp_tr {xs : List Int} (h : Tr xs) : Tr (slp xs) := by
  by_cases hl : xs.length ≤ 1
  · have : slp xs = [] := List.length_eq_zero_iff.mp (by rw [slp_len]; omega)
    rw [this]; exact tr_nil
  · have hne : xs ≠ [] := fun z => by rw [z] at hl; simp at hl
    have hs := S_top h hne
    unfold slp
    rw [show xs.length - 1 = xs.length - 2 + 1 by omega, List.range_succ, List.map_append]
    refine tr_of_last ?_
    rw [S_at] at hs
    show (1 + ((xs.length - 2 : Nat) : Int)) * xs.getD (xs.length - 2 + 1) 0 ≠ 0
    rw [show xs.length - 2 + 1 = xs.length - 1 by omega]
    exact Int.mul_ne_zero (by omega) hs
theorem slp_ne {xs : List Int} (hl : 2 ≤ xs.length) : slp xs ≠ [] := fun z => by
  have := slp_len xs
  rw [z, List.length_nil] at this
  omega
theorem pd_len {F f : List Int} (hF : Tr F) (hFn : F ≠ []) (hf : Tr f) (hfn : f ≠ []) (h : PD (S f) (S F)) : f.length ≤ F.length := by
  obtain ⟨q, hq⟩ := h.whole
  exact hq.lens hf hfn hFn hF
theorem pd_bd {F f : List Int} {b : Nat} (hF : Tr F) (hFn : F ≠ []) (hl : F.length ≤ 13) (hb : BdL b F) (hf : Tr f) (hfn : f ≠ []) (h : PD (S f) (S F)) : BdL (b + 144) f := by
  have hl2 := pd_len hF hFn hf hfn h
  obtain ⟨q, hq⟩ := h.whole
  exact div_bd hF hFn hl hb hq.2 (by omega)
theorem Yn.pdLG {W L D G : List Int} {k : Nat} {fo : List (List Int × Nat)} (y : Yn W L D G k fo) : PD (S (tm L G)) (S W) := by
  obtain ⟨j, hj⟩ : ∃ j, k = j + 1 := ⟨k - 1, by have := y.k1; omega⟩
  refine PD.of ((FinE.prodS fo).mul ((FinE.S L).pow j)) ?_
  rw [y.pr, S_tm, hj, ser_pow_succ]; grind
theorem Yn.pdL {W L D G : List Int} {k : Nat} {fo : List (List Int × Nat)} (y : Yn W L D G k fo) : PD (S L) (S W) := by
  refine PD.trans ?_ y.pdLG
  rw [S_tm]; exact PD.of (FinE.S G) rfl
theorem Yn.pdG {W L D G : List Int} {k : Nat} {fo : List (List Int × Nat)} (y : Yn W L D G k fo) : PD (S G) (S W) := by
  refine PD.trans ?_ y.pdLG
  rw [S_tm, mul_comm']; exact PD.of (FinE.S L) rfl
theorem Yn.len {W L D G : List Int} {k : Nat} {fo : List (List Int × Nat)} (y : Yn W L D G k fo) (hW : Smp W) : L.length + G.length ≤ W.length + 1 := by
  obtain ⟨n1, e, _⟩ := prod_len (tm_tr L G) y.hL.t y.hG.t y.hL.ne y.hG.ne (S_tm L G)
  have := pd_len hW.t hW.ne (tm_tr L G) n1 y.pdLG
  omega
theorem Yn.bits {W L D G : List Int} {k b : Nat} {fo : List (List Int × Nat)} (y : Yn W L D G k fo) (hW : Smp W) (hl : W.length ≤ 13) (hb : BdL b W) :
    BdL (b + 144) L ∧ L.length ≤ W.length ∧ G.length ≤ W.length ∧ (D ≠ [] → L.length + 1 ≤ W.length ∧ D.length + 1 ≤ L.length ∧ BdL (2 * b + 440) D) := by
  have len := y.len hW
  have pL := y.hL.pos
  have pG := y.hG.pos
  have bL := pd_bd hW.t hW.ne hl hb y.hL.t y.hL.ne y.pdL
  have bG := pd_bd hW.t hW.ne hl hb y.hG.t y.hG.ne y.pdG
  refine ⟨bL, by omega, by omega, fun hD => ?_⟩
  have e : S (tm (slp G) L) = S G * S D := by rw [S_tm, S_slp]; exact y.eq
  obtain ⟨n2, e2, _⟩ := prod_len (tm_tr _ _) y.hG.t y.tD y.hG.ne hD e
  have l1 := tm_len (slp G) L
  have l2 := slp_len G
  have pF : 0 < (tm (slp G) L).length := List.length_pos_iff.mpr n2
  have hG2 : 2 ≤ G.length := Nat.le_of_not_lt fun hh => by
    have : slp G = [] := List.length_eq_zero_iff.mp (by omega)
    refine n2 (S_zero_nil (tm_tr _ _) ?_)
    rw [S_tm, this, S_nil]; grind
  have bF : BdL (2 * b + 296) (tm (slp G) L) := (tm_bd (c := 4) (slp_bd bG (by omega)) bL (by omega)).mono (by omega)
  have bD := div_bd (f := D) (q := G) (tm_tr _ _) n2 (by omega) bF (by rw [e, mul_comm']) (by omega)
  exact ⟨by omega, by omega, bD.mono (by omega)⟩
end Pa

namespace Pa
open PySem PySem.Spec PyProof.Rows L2
/-! ### rows in a list -/
def zDD (rows : List (List Int)) : PyData := .list (rows.map zD)
theorem zDD_layAll : ∀ rows : List (List Int), PyData.canLayAll0 (rows.map zD) = true
  | [] => rfl
  | n :: r => by
    show (PyData.canLay0 (zD n) && PyData.canLayAll0 (r.map zD)) = true
    rw [zDD_layAll r, zD_lay]; rfl
theorem zDD_depthAll : ∀ rows : List (List Int), PyData.depthAll (rows.map zD) = if rows = [] then 0 else 1
  | [] => rfl
  | n :: r => by
    show max (PyData.depth (zD n)) (PyData.depthAll (r.map zD)) = _
    rw [zDD_depthAll r, zD_depth, if_neg (List.cons_ne_nil _ _)]
    split <;> rfl
theorem zDD_shaped (rows : List (List Int)) : SeqAt.shaped (zDD rows) = true := by
  unfold SeqAt.shaped
  have h1 : PyData.canLay0 (zDD rows) = true := zDD_layAll rows
  have h2 : PyData.depth (zDD rows) = (if rows = [] then 0 else 1) + 1 := by
    show PyData.depthAll (rows.map zD) + 1 = _
    rw [zDD_depthAll]
  rw [h1, h2]
  split <;> rfl
theorem zDD_eqvAll : ∀ xs ys : List (List Int), PyData.eqvAll (xs.map zD) (ys.map zD) = decide (xs = ys)
  | [], [] => rfl
  | [], y :: ys => rfl
  | x :: xs, [] => rfl
  | x :: xs, y :: ys => by
    show (PyData.eqv (zD x) (zD y) && PyData.eqvAll (xs.map zD) (ys.map zD)) = _
    rw [zDD_eqvAll xs ys, zD_eqv, Bool.eq_iff_iff]
    simp
theorem zDD_eqv (xs ys : List (List Int)) : PyData.eqv (zDD xs) (zDD ys) = decide (xs = ys) := zDD_eqvAll xs ys
theorem cListOfK {X : Cx} {K : PySem.W.Frag} (h : X.K = K) : CallR X (.type "list") (rListOf K) := by subst h; exact cListOf
section
variable {σ : St} {H0 : Hp} {fs : Fs} {Φ : CV} {te tl : TE} {tt : TT} {K : PySem.W.Frag}
theorem WT.yes {Φ : Bool → Fs → Prop} (h : Φ true fs) : WT tYes σ H0 fs Φ := fun H k Q c => c true fs H k h
theorem RS.t {p : Addr} {xs : List V} {lo hi : Option Int} (h : Rt K H0 fs p xs) (hn : ¬ (HT.sIx xs.length 0 lo = 0 ∧ HT.sIx xs.length xs.length hi = xs.length)) (q : ∀ l, Φ (.ref l) ((l, .tup (cutV xs lo hi)) :: fs)) : RS (rSlT K) (.ref p) lo hi H0 fs Φ := fun H k _ c =>
  ⟨p, xs, rfl, h H k, hn, fun l hl => c _ _ _ (k.new hl) (q l)⟩
/-- over a tuple, with tests, items that may be made anew -/
theorem W.lcT {xs : List V} {j : Nat} {vs : List Nat} (I : Addr → Nat → List V → Fs → Prop)
    (h : W tl σ H0 fs fun v f1 => ∃ a, v = .ref a ∧ Rt K H0 f1 a xs ∧ xs.length ≤ 100000 ∧ I a 0 [] f1)
    (hl : ∀ a i acc f, I a i acc f → Rt K H0 f a xs)
    (hw : ∀ x, wipe ((wipe σ vs).set j (some x)) vs = wipe σ vs)
    (hs : ∀ (a : Addr) (i : Nat) (x : V) (D : Addr) (acc : List V) (f : Fs), xs[i]? = some x → I a i acc f →
      WT tt ((wipe σ vs).set j (some x)) H0 ((D, .lst acc) :: f) fun b f2 =>
        (b = true → W te ((wipe σ vs).set j (some x)) H0 f2 fun v f3 => ∃ m, f3[m]? = some (D, .lst acc) ∧ I a (i + 1) (acc ++ [v]) (f3.eraseIdx m)) ∧
        (b = false → ∃ m, f2[m]? = some (D, .lst acc) ∧ I a (i + 1) acc (f2.eraseIdx m)))
    (hd : ∀ a D acc f, I a xs.length acc f → Φ (.ref D) ((D, .lst acc) :: f)) : W (tLc (iTup K tl) (gName j) tt te vs) σ H0 fs Φ := fun H k Q c =>
  h H k _ fun v f1 H1 k1 ⟨a, e, hr, hn, h0⟩ => by
    refine ⟨a, e, ⟨_, hr H1 k1⟩, fun D hD => ?_⟩
    refine lc_tup (K := K) (a := a) (xs := xs) (fun i H' => ∃ acc f, Kn H0 ((D, .lst acc) :: f) H' ∧ I a i acc f ∧ acc.length ≤ i) ⟨[], f1, k1.new hD, h0, Nat.le_refl _⟩ (fun i H' _ ⟨acc, f, p, hi, _⟩ => hl a i acc f hi H' p.drop) (fun i x H' hx ⟨acc, f, p, hi, hlen⟩ => ?_) (fun H' ⟨acc, f, p, hi, _⟩ => c _ _ _ p (hd a D acc f hi))
    obtain ⟨hlt, _⟩ := List.getElem?_eq_some_iff.mp hx
    refine ⟨hw _, ?_⟩
    show tt ((wipe σ vs).set j (some x)) H' _
    refine hs a i x D acc f hx hi H' p _ fun b f2 H2 k2 ⟨ht, hf⟩ => ?_
    cases b with
    | true =>
      show te _ _ _
      refine ht rfl H2 k2 _ fun v f3 H3 k3 ⟨m, hm, hI⟩ => ?_
      have k4 := k3.front hm
      refine ⟨acc, k4.get (.head _), sz_lt (by omega), acc ++ [v], f3.eraseIdx m, k4.put (i := 0) rfl, hI, by simp; omega⟩
    | false =>
      obtain ⟨m, hm, hI⟩ := hf rfl
      exact ⟨acc, _, k2.front hm, hI, by omega⟩
end
end Pa

namespace Pa
open Ser
/-! ### one answer alone -/
theorem Smp.eq {x y : List Int} (hx : Smp x) (hy : Smp y) (h1 : PD (S x) (S y)) (h2 : PD (S y) (S x)) : x = y := by
  obtain ⟨k, hk⟩ := h1.whole
  have sk : Smp k := hy.div hx hk.1 hk.2
  obtain ⟨_, e, _⟩ := prod_len hy.t hx.t hk.1 hx.ne sk.ne hk.2
  have l2 := pd_len hx.t hx.ne hy.t hy.ne h2
  have := sk.one (by omega)
  have e2 := hk.2
  rw [this, S_one] at e2
  refine S_inj hx.t hy.t ?_
  rw [e2]
  have one : (C 1 : Ser) = 1 := rfl
  rw [one]; grind
theorem Mt.pd1 {A B x s t u v : List Int} {n : Int} (h : Mt A B x s t u v n) : PD (S x) (S A) := ⟨_, _, Fin.S s, h.w1.2⟩
theorem Mt.pd2 {A B x s t u v : List Int} {n : Int} (h : Mt A B x s t u v n) : PD (S x) (S B) := ⟨_, _, Fin.S t, h.w2.2⟩
theorem Mt.unique {A B x s t u v x2 s2 t2 u2 v2 : List Int} {n n2 : Int} (h : Mt A B x s t u v n) (h2 : Mt A B x2 s2 t2 u2 v2 n2) : x = x2 ∧ s = s2 ∧ t = t2 := by
  have e : x = x2 := Smp.eq h.smp h2.smp (h2.cb.common (Fin.S x) h.smp.prim h.pd1 h.pd2) (h.cb.common (Fin.S x2) h2.smp.prim h2.pd1 h2.pd2)
  subst e
  exact ⟨rfl, Whole.unique h.smp.t h.ne h.w1 h2.w1, Whole.unique h.smp.t h.ne h.w2 h2.w2⟩
/-- the parts that are still to come -/
inductive Rn : List Int → List Int → Nat → List (List Int × Nat) → Prop
  | done {L D : List Int} {k : Nat} : L.length ≤ 1 → Rn L D k []
  | step {L D h l d u v : List Int} {n : Int} {k : Nat} {r : List (List Int × Nat)} : 1 < L.length → Mt L D h l d u v n → Rn l (minus d (slp l)) (k + 1) r → Rn L D k (if 1 < h.length then (h, k) :: r else r)
theorem Rn.unique {L D : List Int} {k : Nat} {r : List (List Int × Nat)} (h : Rn L D k r) : ∀ r', Rn L D k r' → r = r' := by
  induction h with
  | done hl =>
    intro r' h'
    cases h' with
    | done _ => rfl
    | step h1 _ _ => omega
  | step h1 hm hr ih =>
    intro r' h'
    cases h' with
    | done _ => omega
    | step h2 hm2 hr2 =>
      obtain ⟨e1, e2, e3⟩ := hm.unique hm2
      subst e1 e2 e3
      rw [ih _ hr2]
def Prt (W : List Int) (fo : List (List Int × Nat)) : Prop := ∃ x s t u v n, Mt W (slp W) x s t u v n ∧ Rn s (minus t (slp s)) 1 fo
theorem Prt.unique {W : List Int} {fo fo' : List (List Int × Nat)} (h : Prt W fo) (h' : Prt W fo') : fo = fo' := by
  obtain ⟨x, s, t, u, v, n, hm, hr⟩ := h
  obtain ⟨x2, s2, t2, u2, v2, n2, hm2, hr2⟩ := h'
  obtain ⟨e1, e2, e3⟩ := hm.unique hm2
  subst e1 e2 e3
  exact hr.unique _ hr2
/-! ### pairs in store -/
open PySem PySem.Spec PyProof.Rows L2
abbrev Pr4 := Addr × Addr × List Int × Nat
def pf (ps : List Pr4) : Fs := ps.flatMap fun q => [(q.1, .tup [.ref q.2.1, .int (q.2.2.2 : Int)]), (q.2.1, .lst (zV q.2.2.1))]
def pvs (ps : List Pr4) : List V := ps.map fun q => .ref q.1
def pfo (ps : List Pr4) : List (List Int × Nat) := ps.map fun q => (q.2.2.1, q.2.2.2)
theorem pf_cons (q : Pr4) (ps : List Pr4) : pf (q :: ps) = (q.1, .tup [.ref q.2.1, .int (q.2.2.2 : Int)]) :: (q.2.1, .lst (zV q.2.2.1)) :: pf ps := rfl
theorem pf_rev (ps : List Pr4) : (pf ps.reverse).Perm (pf ps) := List.Perm.flatMap_right _ (List.reverse_perm ps)
theorem mem_pf1 {q : Pr4} {ps : List Pr4} (h : q ∈ ps) : (q.1, HO.tup [.ref q.2.1, .int (q.2.2.2 : Int)]) ∈ pf ps := List.mem_flatMap.mpr ⟨q, h, .head _⟩
theorem mem_pf2 {q : Pr4} {ps : List Pr4} (h : q ∈ ps) : (q.2.1, HO.lst (zV q.2.2.1)) ∈ pf ps := List.mem_flatMap.mpr ⟨q, h, .tail _ (.head _)⟩
end Pa
namespace Pa
open Ser
/-! ### joined -/
def jn (acc : List Int) (fo : List (List Int × Nat)) : List Int := fo.foldl (fun r q => tm r (pw q.1 q.2)) acc
theorem jn_snoc (acc : List Int) (fo : List (List Int × Nat)) (q : List Int × Nat) : jn acc (fo ++ [q]) = tm (jn acc fo) (pw q.1 q.2) := by
  unfold jn
  rw [List.foldl_append]; rfl
theorem S_jn : ∀ (fo : List (List Int × Nat)) (acc : List Int), S (jn acc fo) = S acc * prodS fo
  | [], acc => by
    show S acc = S acc * 1
    grind
  | (h, k) :: r, acc => by
    show S (jn (tm acc (pw h k)) r) = S acc * (S h ^ k * prodS r)
    rw [S_jn r, S_tm, S_pw]; grind
theorem jn_tr : ∀ (fo : List (List Int × Nat)) (acc : List Int), Tr acc → Tr (jn acc fo)
  | [], acc, h => h
  | (h, k) :: r, acc, _ => jn_tr r (tm acc (pw h k)) (tm_tr _ _)
theorem jn_bd {X : Nat} : ∀ (fo : List (List Int × Nat)) (acc : List Int) (b : Nat), BdL b acc → acc.length + fo.length * 800 ≤ 32768 → (∀ q ∈ fo, q.2 ≤ 100 ∧ (∀ i, i ≤ q.2 → (pw q.1 i).length ≤ 800) ∧ BdL X q.1) → BdL (b + fo.length * (101 * (X + 10) + 16)) (jn acc fo) ∧ (jn acc fo).length ≤ acc.length + fo.length * 800
  | [], acc, b, hb, _, _ => ⟨by rw [List.length_nil, Nat.zero_mul]; exact hb, by show acc.length ≤ _; omega⟩
  | (h, k) :: r, acc, b, hb, hl, hq => by
    obtain ⟨h1, h2, h3⟩ := hq (h, k) List.mem_cons_self
    have hk : (pw h k).length ≤ 800 := h2 k (Nat.le_refl _)
    have hp := pw_bd (c := 10) h3 k fun i hi => Nat.le_trans (h2 i (by show i ≤ k; omega)) (by decide)
    have hm : k * (X + 10) ≤ 100 * (X + 10) := Nat.mul_le_mul_right _ h1
    obtain ⟨Y, hY⟩ : ∃ Y, Y = 101 * (X + 10) + 16 := ⟨_, rfl⟩
    rw [← hY]
    simp only [List.length_cons, Nat.succ_mul] at hl ⊢
    have ht := tm_bd (c := 15) hb hp (by omega)
    have hlen := tm_len acc (pw h k)
    obtain ⟨i1, i2⟩ := jn_bd r (tm acc (pw h k)) (b + Y) (ht.mono (by omega)) (by omega) fun q hq' => hq q (List.mem_cons_of_mem _ hq')
    rw [← hY] at i1
    refine ⟨i1.mono (by omega), ?_⟩
    show (jn (tm acc (pw h k)) r).length ≤ _
    omega
/-- what the parts are worth at a place -/
def wo (c : Int) (fo : List (List Int × Nat)) (x : Int) : Int := fo.foldl (fun r q => r * pval q.1 x ^ q.2) c
theorem wo_snoc (c : Int) (fo : List (List Int × Nat)) (q : List Int × Nat) (x : Int) : wo c (fo ++ [q]) x = wo c fo x * pval q.1 x ^ q.2 := by
  unfold wo
  rw [List.foldl_append]; rfl
theorem pval_tm (a : Int) (xs ys : List Int) : pval (tm xs ys) a = pval xs a * pval ys a := pval_mul (S_tm xs ys)
theorem pval_pw (a : Int) (xs : List Int) : ∀ n : Nat, pval (pw xs n) a = pval xs a ^ n
  | 0 => by
    rw [Int.pow_zero]
    show pval [1] a = 1
    simp [pval]
  | n + 1 => by
    show pval (tm (pw xs n) xs) a = _
    rw [pval_tm, pval_pw a xs n, Int.pow_succ]
theorem pval_jn (a : Int) : ∀ (fo : List (List Int × Nat)) (acc : List Int), pval (jn acc fo) a = wo (pval acc a) fo a
  | [], acc => rfl
  | (h, k) :: r, acc => by
    show pval (jn (tm acc (pw h k)) r) a = wo (pval acc a * pval h a ^ k) r a
    rw [pval_jn a r, pval_tm, pval_pw]
theorem trim_one {c : Int} (h : c ≠ 0) : trim [c] = [c] := tr_of_last (ys := []) h
/-! ### parts as data -/
section
open PySem PySem.Spec PyProof.Rows L2
def prD (q : List Int × Nat) : PyData := .tuple [zD q.1, .int (q.2 : Int)]
def ptD (fo : List (List Int × Nat)) : PyData := .list (fo.map prD)
theorem prD_lay (q : List Int × Nat) : PyData.canLay0 (prD q) = true := by
  show (PyData.canLay0 (zD q.1) && (PyData.canLay0 (.int (q.2 : Int)) && true)) = true
  rw [zD_lay]; rfl
theorem prD_depth (q : List Int × Nat) : PyData.depth (prD q) = 2 := by
  show max (PyData.depth (zD q.1)) (max (PyData.depth (.int (q.2 : Int))) 0) + 1 = 2
  rw [zD_depth]; rfl
theorem ptD_layAll : ∀ fo : List (List Int × Nat), PyData.canLayAll0 (fo.map prD) = true
  | [] => rfl
  | n :: r => by
    show (PyData.canLay0 (prD n) && PyData.canLayAll0 (r.map prD)) = true
    rw [ptD_layAll r, prD_lay]; rfl
theorem ptD_depthAll : ∀ fo : List (List Int × Nat), PyData.depthAll (fo.map prD) = if fo = [] then 0 else 2
  | [] => rfl
  | n :: r => by
    show max (PyData.depth (prD n)) (PyData.depthAll (r.map prD)) = _
    rw [ptD_depthAll r, prD_depth, if_neg (List.cons_ne_nil _ _)]
    split <;> rfl
theorem ptD_lay (fo : List (List Int × Nat)) : PyData.canLay0 (ptD fo) = true := ptD_layAll fo
theorem ptD_depth (fo : List (List Int × Nat)) : PyData.depth (ptD fo) = (if fo = [] then 0 else 2) + 1 := by
  show PyData.depthAll (fo.map prD) + 1 = _
  rw [ptD_depthAll]
theorem ptD_shaped (fo : List (List Int × Nat)) : SeqAt.shaped (ptD fo) = true := by
  unfold SeqAt.shaped
  rw [ptD_lay, ptD_depth]
  split <;> rfl
theorem prD_eqv (p q : List Int × Nat) : PyData.eqv (prD p) (prD q) = decide (p = q) := by
  show (PyData.eqv (zD p.1) (zD q.1) && (PyData.eqv (.int (p.2 : Int)) (.int (q.2 : Int)) && true)) = _
  rw [zD_eqv]
  show (decide (p.1 = q.1) && (((p.2 : Int) == (q.2 : Int)) && true)) = _
  obtain ⟨a, b⟩ := p
  obtain ⟨c, d⟩ := q
  rw [Bool.eq_iff_iff]
  simp
  omega
theorem ptD_eqvAll : ∀ xs ys : List (List Int × Nat), PyData.eqvAll (xs.map prD) (ys.map prD) = decide (xs = ys)
  | [], [] => rfl
  | [], y :: ys => rfl
  | x :: xs, [] => rfl
  | x :: xs, y :: ys => by
    show (PyData.eqv (prD x) (prD y) && PyData.eqvAll (xs.map prD) (ys.map prD)) = _
    rw [ptD_eqvAll xs ys, prD_eqv, Bool.eq_iff_iff]
    simp
theorem ptD_eqv (xs ys : List (List Int × Nat)) : PyData.eqv (ptD xs) (ptD ys) = decide (xs = ys) := ptD_eqvAll xs ys
/-- a number and parts -/
def naD (c : Int) (fo : List (List Int × Nat)) : PyData := .tuple [.int c, ptD fo]
theorem naD_shaped (c : Int) (fo : List (List Int × Nat)) : SeqAt.shaped (naD c fo) = true := by
  unfold SeqAt.shaped
  have h1 : PyData.canLay0 (naD c fo) = true := by
    show (PyData.canLay0 (.int c) && (PyData.canLay0 (ptD fo) && true)) = true
    rw [ptD_lay]; rfl
  have h2 : PyData.depth (naD c fo) = max (PyData.depth (.int c)) (max (PyData.depth (ptD fo)) 0) + 1 := rfl
  rw [h1, h2, ptD_depth]
  split <;> rfl
theorem naD_eqv (c d : Int) (fo fo' : List (List Int × Nat)) : PyData.eqv (naD c fo) (naD d fo') = (decide (c = d) && decide (fo = fo')) := by
  show (PyData.eqv (.int c) (.int d) && (PyData.eqv (ptD fo) (ptD fo') && true)) = _
  rw [ptD_eqv, Bool.and_true]
  show ((c == d) && _) = _
  rw [Bool.eq_iff_iff]
  simp
/-- pairs that may be read -/
structure Rps (H0 : Hp) (fs : Fs) (ps : List Pr4) : Prop where
  t : ∀ q ∈ ps, Rx H0 fs q.1 (.tup [.ref q.2.1, .int (q.2.2.2 : Int)])
  l : ∀ q ∈ ps, Rx H0 fs q.2.1 (.lst (zV q.2.2.1))
theorem Rps.own {H0 : Hp} {fs : Fs} {ps : List Pr4} (h : ∀ x ∈ pf ps, x ∈ fs) : Rps H0 fs ps := ⟨fun q hq => Rx.own (h _ (mem_pf1 hq)), fun q hq => Rx.own (h _ (mem_pf2 hq))⟩
variable {K : PySem.W.Frag}
theorem Rps.all {H0 : Hp} {fs : Fs} : ∀ {ps : List Pr4}, Rps H0 fs ps → RdA K H0 fs (pvs ps) ((pfo ps).map prD)
  | [], _ => RdA.nil
  | q :: r, h => RdA.cons (Rd.tup (Rt.x (h.t q List.mem_cons_self)) (RdA.cons (Rd.z (Rl.x (h.l q List.mem_cons_self))) (RdA.cons Rd.int RdA.nil))) (Rps.all ⟨fun q' hq' => h.t q' (List.mem_cons_of_mem _ hq'), fun q' hq' => h.l q' (List.mem_cons_of_mem _ hq')⟩)
theorem Rps.data {H0 : Hp} {fs : Fs} {ps : List Pr4} {a : Addr} (h : Rps H0 fs ps) (ha : Rl K H0 fs a (pvs ps)) : Rd K H0 fs (.ref a) (ptD (pfo ps)) := Rd.lst ha h.all
/-- .. in a heap -/
structure Hps (H : Hp) (ps : List Pr4) : Prop where
  t : ∀ q ∈ ps, H q.1 = some (.tup [.ref q.2.1, .int (q.2.2.2 : Int)])
  l : ∀ q ∈ ps, H q.2.1 = some (.lst (zV q.2.2.1))
theorem Rps.at {H0 H : Hp} {fs : Fs} {ps : List Pr4} (h : Rps H0 fs ps) (k : Kn H0 fs H) : Hps H ps := ⟨fun q hq => h.t q hq H k, fun q hq => h.l q hq H k⟩
theorem Hps.rps {H : Hp} {fs : Fs} {ps : List Pr4} (h : Hps H ps) : Rps H fs ps := ⟨fun q hq => Rx.arg (h.t q hq), fun q hq => Rx.arg (h.l q hq)⟩
theorem Rps.cons {H0 : Hp} {x : Addr × HO} {fs : Fs} {ps : List Pr4} (h : Rps H0 fs ps) : Rps H0 (x :: fs) ps := ⟨fun q hq H k => h.t q hq H k.drop, fun q hq H k => h.l q hq H k.drop⟩
theorem pvs_get {ps : List Pr4} {i : Nat} {x : V} (h : (pvs ps)[i]? = some x) : ∃ q, ps[i]? = some q ∧ x = .ref q.1 := by
  unfold pvs at h
  rw [List.getElem?_map] at h
  obtain ⟨q, e, rfl⟩ := Option.map_eq_some_iff.mp h
  exact ⟨q, e, rfl⟩
theorem pvs_len (ps : List Pr4) : (pvs ps).length = ps.length := List.length_map _
theorem pfo_len (ps : List Pr4) : (pfo ps).length = ps.length := List.length_map _
theorem pfo_take {ps : List Pr4} {i : Nat} {q : Pr4} (h : ps[i]? = some q) : (pfo ps).take (i + 1) = (pfo ps).take i ++ [(q.2.2.1, q.2.2.2)] := by
  obtain ⟨hi, e⟩ := List.getElem?_eq_some_iff.mp h
  unfold pfo
  rw [← List.map_take, ← List.map_take, List.take_succ_eq_append_getElem hi, List.map_append, e]; rfl
theorem mem_pfo {ps : List Pr4} {q : Pr4} (h : q ∈ ps) : (q.2.2.1, q.2.2.2) ∈ pfo ps := List.mem_map.mpr ⟨q, h, rfl⟩
theorem pfo_all {ps : List Pr4} {P : List Int × Nat → Prop} (h : ∀ q ∈ ps, P (q.2.2.1, q.2.2.2)) : ∀ q ∈ pfo ps, P q := fun q hq => by
  obtain ⟨x, hx, rfl⟩ := List.mem_map.mp hq
  exact h x hx
end
end Pa
namespace Pa
open PySem PySem.Spec PyProof.Rows L2
theorem N.self' {e : St → Hp → Prop} {σ : St} {H : Hp} (h : N e σ H []) : e σ H := h H fun _ _ e => e
/-- a cut, its first part seen from a later heap -/
theorem S.cutB {ts : TS} {tz : TS} {D : Ends} {σ : St} {H0 : Hp} {fs : Fs} (I : St → Fs → Prop) (h : ∀ H1, Kn H0 fs H1 → N (ts { D with nx := Un H1 fun σ f => I σ (f ++ fs) }) σ H1 []) (k : ∀ σ' f', I σ' f' → N (tz D) σ' H0 f') : N (tCut ts tz D) σ H0 fs := fun H kn =>
  ⟨Un H fun σ f => I σ (f ++ fs), h H kn H fun _ _ e => e, fun σ' H' ⟨⟨f', k', i⟩⟩ => k σ' (f' ++ fs) i H' (kn.app k')⟩
/-- over a list that is made there -/
theorem S.forLE {K : PySem.W.Frag} {te : TE} {ts : TS} {D : Ends} {σ : St} {H0 : Hp} {fs : Fs} {xs : List V} {g : TG} (I : Addr → Nat → St → Fs → Prop)
    (h : W te σ H0 fs fun v f1 => ∃ a, v = .ref a ∧ Rl K H0 f1 a xs ∧ I a 0 σ f1)
    (hl : ∀ a i σ' f', I a i σ' f' → Rl K H0 f' a xs)
    (hs : ∀ (a : Addr) (i : Nat) x σ' f', xs[i]? = some x → I a i σ' f' → ∀ H, Kn H0 f' H → g x σ' H fun σ2 H2 => ts { D with nx := Lp H0 (I a) (i + 1), ct := Lp H0 (I a) (i + 1), bk := D.nx } σ2 H2)
    (hd : ∀ a σ' f', I a xs.length σ' f' → N D.nx σ' H0 f') : N (tFor (iList K te) g ts D) σ H0 fs := fun H k =>
  h H k _ fun v f1 H1 k1 ⟨a, e, hr, h0⟩ => by
    refine ⟨a, e, ⟨xs, hr H1 k1⟩, for_list (K := K) (a := a) (xs := xs) (Lp H0 (I a)) ⟨f1, k1, h0⟩ (fun i σ' H' _ p => ?_) (fun i x σ' H' hx p => ?_) (fun σ' H' p => ?_)⟩
    · obtain ⟨f', k', p⟩ := p.ex
      exact hl a i σ' f' p H' k'
    · obtain ⟨f', k', p⟩ := p.ex
      exact hs a i x σ' f' hx p H' k'
    · obtain ⟨f', k', p⟩ := p.ex
      exact hd a σ' f' p H' k'
theorem pf_app (A B : List Pr4) : pf (A ++ B) = pf A ++ pf B := by unfold pf; rw [List.flatMap_append]
theorem pf_at (P T : Fs) (A B : List Pr4) (q : Pr4) : (P ++ (pf (A ++ q :: B) ++ T))[P.length + ((pf A).length + 1)]? = some (q.2.1, .lst (zV q.2.2.1)) := by
  rw [pf_app, pf_cons, List.getElem?_append_right (Nat.le_add_right _ _), Nat.add_sub_cancel_left, List.append_assoc, List.getElem?_append_right (Nat.le_add_right _ _), Nat.add_sub_cancel_left]
  rfl
theorem pf_set (P T : Fs) (A B : List Pr4) (q : Pr4) (h' : List Int) : (P ++ (pf (A ++ q :: B) ++ T)).set (P.length + ((pf A).length + 1)) (q.2.1, .lst (zV h')) = P ++ (pf (A ++ (q.1, q.2.1, h', q.2.2.2) :: B) ++ T) := by
  rw [pf_app, pf_app, pf_cons, pf_cons, List.set_append_right _ _ (Nat.le_add_right _ _), Nat.add_sub_cancel_left, List.append_assoc, List.append_assoc, List.set_append_right _ _ (Nat.le_add_right _ _), Nat.add_sub_cancel_left]
  rfl
/-- counts that rise are few -/
theorem rise_len {k : Nat} : ∀ (l : List Nat) (lo : Nat), (∀ x ∈ l, lo ≤ x ∧ x < k) → l.Pairwise (· < ·) → l = [] ∨ l.length + lo ≤ k
  | [], _, _, _ => .inl rfl
  | a :: r, lo, h, hp => by
    obtain ⟨h1, h2⟩ := List.pairwise_cons.mp hp
    have ha := h a List.mem_cons_self
    refine .inr ?_
    rcases rise_len r (a + 1) (fun x hx => ⟨h1 x hx, (h x (List.mem_cons_of_mem _ hx)).2⟩) h2 with e | e
    · rw [e]; simp; omega
    · rw [List.length_cons]; omega
theorem Pts.len {k : Nat} {fo : List (List Int × Nat)} (h : Pts k fo) : fo.length ≤ k := by
  obtain ⟨h1, h2⟩ := h
  have := rise_len (k := k) (fo.map Prod.snd) 1 (fun x hx => by
    obtain ⟨q, hq, rfl⟩ := List.mem_map.mp hx
    obtain ⟨_, _, a, b⟩ := h1 q hq
    exact ⟨a, b⟩) (List.pairwise_map.mpr h2)
  rcases this with e | e
  · rw [List.map_eq_nil_iff] at e
    rw [e]; exact Nat.zero_le _
  · rw [List.length_map] at e; omega
open Ser in
theorem prodS_mem : ∀ {fo : List (List Int × Nat)} {q : List Int × Nat}, q ∈ fo → ∃ k, FinE k ∧ prodS fo = S q.1 ^ q.2 * k
  | q' :: r, q, h => by
    rcases List.mem_cons.mp h with e | h
    · subst e
      exact ⟨prodS r, FinE.prodS r, rfl⟩
    · obtain ⟨k, hk, e⟩ := prodS_mem h
      refine ⟨S q'.1 ^ q'.2 * k, ((FinE.S _).pow _).mul hk, ?_⟩
      show S q'.1 ^ q'.2 * prodS r = _
      rw [e]; grind
open Ser in
theorem part_pd {W : List Int} {fo : List (List Int × Nat)} {q : List Int × Nat} (h : S W = prodS fo) (hq : q ∈ fo) (h1 : 1 ≤ q.2) : PD (S q.1) (S W) := by
  obtain ⟨k, hk, e⟩ := prodS_mem hq
  obtain ⟨j, hj⟩ : ∃ j, q.2 = j + 1 := ⟨q.2 - 1, by omega⟩
  refine PD.of (k := S q.1 ^ j * k) (((FinE.S _).pow _).mul hk) ?_
  rw [h, e, hj, ser_pow_succ]; grind
end Pa

namespace Pa
open Ser
/-! ### no part has a square, no two share anything -/
theorem FinE.add {f g : Ser} (h : FinE f) (h2 : FinE g) : FinE (f + g) := by
  obtain ⟨n, h⟩ := h
  obtain ⟨m, h2⟩ := h2
  exact ⟨_, (h.mono (Nat.le_max_left _ _)).add (h2.mono (Nat.le_max_right _ _))⟩
theorem FinE.sub {f g : Ser} (h : FinE f) (h2 : FinE g) : FinE (f - g) := by
  obtain ⟨n, h⟩ := h
  obtain ⟨m, h2⟩ := h2
  exact ⟨_, (h.mono (Nat.le_max_left _ _)).sub (h2.mono (Nat.le_max_right _ _))⟩
theorem FinE.C (a : Int) : FinE (Ser.C a) := ⟨1, Fin.C a⟩
theorem FinE.der {f : Ser} (h : FinE f) : FinE (Pa.der f) := by
  obtain ⟨n, h⟩ := h
  exact ⟨_, h.der⟩
theorem ne_mul {f g : Ser} (hf : FinE f) (hg : FinE g) (h1 : f ≠ 0) (h2 : g ≠ 0) : f * g ≠ 0 := fun z => by
  obtain ⟨n, hf⟩ := hf
  obtain ⟨m, hg⟩ := hg
  rcases mul_eq_zero' hf hg z with h | h
  · exact h1 h
  · exact h2 h
theorem one_ne : (1 : Ser) ≠ 0 := fun z => by
  have := congrFun z 0
  exact absurd this (by decide)
theorem ne_pow {f : Ser} (hf : FinE f) (h : f ≠ 0) : ∀ n : Nat, f ^ n ≠ 0
  | 0 => one_ne
  | n + 1 => by
    rw [ser_pow_succ]
    exact ne_mul (hf.pow n) hf (ne_pow hf h n) h
theorem cancelE {f g h : Ser} (hf : FinE f) (h0 : f ≠ 0) (hg : FinE g) (hh : FinE h) (e : f * g = f * h) : g = h := by
  obtain ⟨n, hf⟩ := hf
  obtain ⟨m, hg⟩ := hg
  obtain ⟨k, hh⟩ := hh
  exact mul_cancel' hf hg hh h0 e
theorem der_pow (p : Ser) : ∀ e : Nat, der (p ^ e) * p = C (e : Int) * (p ^ e * der p)
  | 0 => by
    rw [ser_pow_zero, one_eq, der_C]
    have : (C ((0 : Nat) : Int) : Ser) = 0 := rfl
    rw [this]; grind
  | e + 1 => by
    have ih := der_pow p e
    rw [ser_pow_succ, der_mul, Int.natCast_add, C_add]
    have one : (C ((1 : Nat) : Int) : Ser) = 1 := rfl
    rw [one]
    have r : (der (p ^ e) * p + p ^ e * der p) * p = der (p ^ e) * p * p + p ^ e * der p * p := by grind
    rw [r, ih]
    generalize p ^ e = q
    generalize der p = d
    generalize (C (e : Int) : Ser) = c
    grind
theorem sq_ring1 (n y u p a v t : Ser) (h : n = u * (p * a) + v * t) : n * y = p * (u * a * y) + v * (y * t) := by grind
theorem sq_ring2 (q y t x' dq dy p a b c d : Ser) (hx : x' = dq * y + q * dy) (hd : dq * p = c * (q * d)) (h : q * y * t = x' * (p * a) + q * y * (p * b)) : q * (y * t) = q * (c * (d * a) * y + p * (dy * a + y * b)) := by
  have e1 : x' * (p * a) = c * (q * d) * (y * a) + q * dy * (p * a) := by
    rw [hx]
    have : (dq * y + q * dy) * (p * a) = dq * p * (y * a) + q * dy * (p * a) := by grind
    rw [this, hd]
  rw [e1] at h
  have e2 : q * (y * t) = q * y * t := by grind
  rw [e2, h]
  grind
/-- what stands in a row and in its slope, the row being what is left of all parts -/
theorem sqf_step {W x s t u v : List Int} {n : Int} (hW : Smp W) (h : Mt W (slp W) x s t u v n) {p a b : Ser} (hp : FinE p) (hpp : Prim p) (hp0 : p ≠ 0) (ha : FinE a) (hb : FinE b) (ea : S s = p * a) (eb : der (S s) = p * b) :
    ∀ e : Nat, ∃ y, FinE y ∧ S x = p ^ e * y
  | 0 => ⟨S x, FinE.S x, by rw [ser_pow_zero]; grind⟩
  | e + 1 => by
    obtain ⟨y, hy, ey⟩ := sqf_step hW h hp hpp hp0 ha hb ea eb e
    have hx := h.smp
    have e1 : S x * S t = der (S x) * S s + S x * der (S s) := by
      have d1 : der (S W) = der (S x) * S s + S x * der (S s) := by rw [h.w1.2, der_mul]
      have d2 : der (S W) = S x * S t := by rw [← S_slp]; exact h.w2.2
      rw [← d1, d2]
    have e2 : C n = S u * S s + S v * S t := by
      refine cancel_left hx.t hx.ne (FinE.C n) (((FinE.S u).mul (FinE.S s)).add ((FinE.S v).mul (FinE.S t))) ?_
      have e := h.cb.eq
      rw [h.w1.2, h.w2.2] at e
      have r1 : S x * C n = C n * S x := by grind
      rw [r1, e]; grind
    have e3 : der (S x) = der (p ^ e) * y + p ^ e * der y := by rw [ey, der_mul]
    have e4 : der p * a = p * (b - der a) := by
      have d : der (S s) = der p * a + p * der a := by rw [ea, der_mul]
      rw [eb] at d
      grind
    rw [eb, ea, ey] at e1
    have e5 := sq_ring2 (p ^ e) y (S t) (der (p ^ e * y)) (der (p ^ e)) (der y) p a b (C (e : Int)) (der p) (der_mul _ _) (der_pow p e) e1
    have e6 : y * S t = C (e : Int) * (der p * a) * y + p * (der y * a + y * b) :=
      cancelE (hp.pow e) (ne_pow hp hp0 e) (hy.mul (FinE.S t)) ((((FinE.C _).mul (hp.der.mul ha)).mul hy).add (hp.mul ((hy.der.mul ha).add (hy.mul hb)))) e5
    rw [e4] at e6
    have e7 : y * S t = p * (C (e : Int) * (b - der a) * y + (der y * a + y * b)) := by rw [e6]; grind
    have e8 : PD p (C n * y) := by
      rw [ea] at e2
      refine PD.of (k := S u * a * y + S v * (C (e : Int) * (b - der a) * y + (der y * a + y * b))) ?_ ?_
      · exact (((FinE.S u).mul ha).mul hy).add ((FinE.S v).mul ((((FinE.C _).mul (hb.sub ha.der)).mul hy).add ((hy.der.mul ha).add (hy.mul hb))))
      · rw [sq_ring1 (C n) y (S u) p a (S v) (S t) e2, e7]; grind
    obtain ⟨m, hpm⟩ := hp
    obtain ⟨m2, k, hk, ek⟩ := PD.out hpm hpp (show n ≠ 0 by have := h.cb.n1; omega) e8
    exact ⟨k, ⟨_, hk⟩, by rw [ey, ek, ser_pow_succ]; grind⟩
theorem pw_exact {g : List Int} (hg : Smp g) : ∀ e : Nat, Tr (pw g e) ∧ pw g e ≠ [] ∧ (pw g e).length = 1 + e * (g.length - 1)
  | 0 => ⟨tr_of_last (ys := []) (by decide), by simp [pw], by simp [pw]⟩
  | e + 1 => by
    obtain ⟨h1, h2, h3⟩ := pw_exact hg e
    obtain ⟨a, b, _⟩ := prod_len (A := tm (pw g e) g) (tm_tr _ _) h1 hg.t h2 hg.ne (S_tm _ _)
    refine ⟨tm_tr _ _, a, ?_⟩
    show (tm (pw g e) g).length = _
    have := hg.pos
    rw [Nat.succ_mul]
    omega
theorem sqf {W x s t u v g : List Int} {n : Int} (hW : Smp W) (h : Mt W (slp W) x s t u v n) (hg : Smp g) (h1 : PD (S g) (S s)) (h2 : PD (S g) (der (S s))) : g = [1] := by
  obtain ⟨_, a, ha, ea⟩ := h1
  obtain ⟨_, b, hb, eb⟩ := h2
  refine hg.one (Nat.le_of_not_lt fun hl => ?_)
  obtain ⟨y, hy, ey⟩ := sqf_step hW h (FinE.S g) hg.prim hg.nz ⟨_, ha⟩ ⟨_, hb⟩ ea eb x.length
  obtain ⟨p1, p2, p3⟩ := pw_exact hg x.length
  have hx := h.smp
  have := pd_len hx.t hx.ne p1 p2 (PD.of hy (by rw [S_pw]; exact ey))
  have m : x.length * 1 ≤ x.length * (g.length - 1) := Nat.mul_le_mul_left _ (by omega)
  omega
/-- all parts once -/
def radS : List (List Int × Nat) → Ser
  | [] => 1
  | q :: r => S q.1 * radS r
/-- all parts once less -/
def gS : List (List Int × Nat) → Ser
  | [] => 1
  | q :: r => S q.1 ^ (q.2 - 1) * gS r
theorem FinE.radS : ∀ fo : List (List Int × Nat), FinE (Pa.radS fo)
  | [] => FinE.one
  | q :: r => (FinE.S q.1).mul (FinE.radS r)
theorem FinE.gS : ∀ fo : List (List Int × Nat), FinE (Pa.gS fo)
  | [] => FinE.one
  | q :: r => ((FinE.S q.1).pow _).mul (FinE.gS r)
theorem prod_split : ∀ fo : List (List Int × Nat), (∀ q ∈ fo, 1 ≤ q.2) → prodS fo = radS fo * gS fo
  | [], _ => by
    show (1 : Ser) = 1 * 1
    grind
  | (h, k) :: r, hq => by
    have hk : 1 ≤ k := hq (h, k) List.mem_cons_self
    show S h ^ k * prodS r = S h * radS r * (S h ^ (k - 1) * gS r)
    rw [prod_split r fun q hq' => hq q (List.mem_cons_of_mem _ hq')]
    obtain ⟨j, rfl⟩ : ∃ j, k = j + 1 := ⟨k - 1, by omega⟩
    rw [Nat.add_sub_cancel, ser_pow_succ]; grind
theorem Rn.rad {L D : List Int} {k : Nat} {r : List (List Int × Nat)} (h : Rn L D k r) : Smp L → S L = radS r := by
  induction h with
  | done hl =>
    intro hs
    rw [hs.one hl, S_one]
    rfl
  | step h1 hm hr ih =>
    intro hs
    have hh := hm.smp
    have hl := hs.div hh hm.w1.1 hm.w1.2
    have e := ih hl
    split
    · show _ = S _ * radS _
      rw [← e]; exact hm.w1.2
    · rename_i hc
      have := hh.one (by omega)
      have e2 := hm.w1.2
      rw [this, S_one] at e2
      rw [← e, e2]
      have one : (C 1 : Ser) = 1 := rfl
      rw [one]; grind
/-- what is known of the parts of a row -/
structure Prk (W : List Int) (fo : List (List Int × Nat)) (x s : List Int) : Prop where
  sw : Smp W
  mt : ∃ t u v n, Mt W (slp W) x s t u v n
  rad : S s = radS fo
  g : S x = gS fo
theorem Prt.know {W : List Int} {fo : List (List Int × Nat)} {k : Nat} (h : Prt W fo) (hW : Smp W) (hp : Pts k fo) (he : S W = prodS fo) : ∃ x s, Prk W fo x s := by
  obtain ⟨x, s, t, u, v, n, hm, hr⟩ := h
  have hs : Smp s := hW.div hm.smp hm.w1.1 hm.w1.2
  have er := hr.rad hs
  refine ⟨x, s, hW, ⟨t, u, v, n, hm⟩, er, ?_⟩
  refine cancel_left hs.t hs.ne (FinE.S x) (FinE.gS fo) ?_
  have e1 := hm.w1.2
  rw [he, prod_split fo fun q hq => (hp.1 q hq).2.2.1, ← er] at e1
  rw [e1]; grind
theorem rad_mem : ∀ {fo : List (List Int × Nat)} {q : List Int × Nat}, q ∈ fo → ∃ k, FinE k ∧ radS fo = S q.1 * k
  | q' :: r, q, h => by
    rcases List.mem_cons.mp h with e | h
    · subst e
      exact ⟨radS r, FinE.radS r, rfl⟩
    · obtain ⟨k, hk, e⟩ := rad_mem h
      refine ⟨S q'.1 * k, (FinE.S _).mul hk, ?_⟩
      show S q'.1 * radS r = _
      rw [e]; grind
theorem rad_two : ∀ {fo : List (List Int × Nat)} {i j : Nat} {p q : List Int × Nat}, i < j → fo[i]? = some p → fo[j]? = some q → ∃ k, FinE k ∧ radS fo = S p.1 * S q.1 * k
  | [], _, _, _, _, _, h, _ => by simp at h
  | a :: r, 0, j + 1, p, q, _, h1, h2 => by
    have e : a = p := Option.some.inj h1
    subst e
    obtain ⟨k, hk, e⟩ := rad_mem (List.mem_of_getElem? (show r[j]? = some q by simpa using h2))
    refine ⟨k, hk, ?_⟩
    show S a.1 * radS r = _
    rw [e]; grind
  | a :: r, i + 1, j + 1, p, q, hij, h1, h2 => by
    obtain ⟨k, hk, e⟩ := rad_two (fo := r) (i := i) (j := j) (by omega) (by simpa using h1) (by simpa using h2)
    refine ⟨S a.1 * k, (FinE.S _).mul hk, ?_⟩
    show S a.1 * radS r = _
    rw [e]; grind
theorem Prk.alone {W x s g a b u v : List Int} {n : Int} {fo : List (List Int × Nat)} {q : List Int × Nat} (h : Prk W fo x s) (hq : q ∈ fo) (hm : Mt q.1 (slp q.1) g a b u v n) : g = [1] := by
  obtain ⟨t, u', v', n', hM⟩ := h.mt
  obtain ⟨k, hk, ek⟩ := rad_mem hq
  have e := h.rad
  rw [ek] at e
  have p1 := hm.pd1
  have p2 := hm.pd2
  rw [S_slp] at p2
  refine sqf h.sw hM hm.smp ?_ ?_
  · rw [e]
    obtain ⟨m, hk⟩ := hk
    exact p1.mul hk
  · rw [e, der_mul]
    obtain ⟨m, hk⟩ := hk
    exact (p2.mul hk).add (p1.mul hk.der)
theorem Prk.apart {W x s g a b u v : List Int} {n : Int} {fo : List (List Int × Nat)} {p q : List Int × Nat} {i j : Nat} (h : Prk W fo x s) (hij : i < j) (h1 : fo[i]? = some p) (h2 : fo[j]? = some q) (hm : Mt p.1 q.1 g a b u v n) : g = [1] := by
  obtain ⟨t, u', v', n', hM⟩ := h.mt
  obtain ⟨k, hk, ek⟩ := rad_two hij h1 h2
  have e := h.rad
  rw [ek] at e
  have p1 := hm.pd1
  have p2 := hm.pd2
  obtain ⟨m, hk⟩ := hk
  refine sqf h.sw hM hm.smp ?_ ?_
  · rw [e]
    exact (p1.mul (Fin.S q.1)).mul hk
  · rw [e, der_mul, der_mul]
    refine PD.add (PD.mul (PD.add ?_ (p1.mul (Fin.S q.1).der)) hk) (PD.mul (p1.mul (Fin.S q.1)) hk.der)
    rw [mul_comm']
    exact p2.mul (Fin.S p.1).der
theorem g_mem : ∀ {fo : List (List Int × Nat)} {q : List Int × Nat}, q ∈ fo → 1 < q.2 → ∃ k, FinE k ∧ gS fo = S q.1 * k
  | q' :: r, q, h, hq => by
    rcases List.mem_cons.mp h with e | h
    · subst e
      obtain ⟨j, hj⟩ : ∃ j, q.2 - 1 = j + 1 := ⟨q.2 - 2, by omega⟩
      refine ⟨S q.1 ^ j * gS r, ((FinE.S _).pow j).mul (FinE.gS r), ?_⟩
      show S q.1 ^ (q.2 - 1) * gS r = _
      rw [hj, ser_pow_succ]; grind
    · obtain ⟨k, hk, e⟩ := g_mem h hq
      refine ⟨S q'.1 ^ (q'.2 - 1) * k, ((FinE.S _).pow _).mul hk, ?_⟩
      show S q'.1 ^ (q'.2 - 1) * gS r = _
      rw [e]; grind
theorem g_one : ∀ {fo : List (List Int × Nat)}, (∀ q ∈ fo, q.2 ≤ 1) → gS fo = 1
  | [], _ => rfl
  | q :: r, h => by
    have h1 := h q List.mem_cons_self
    show S q.1 ^ (q.2 - 1) * gS r = 1
    rw [g_one fun q' hq' => h q' (List.mem_cons_of_mem _ hq'), show q.2 - 1 = 0 by omega, ser_pow_zero]; grind
theorem Prk.square {W x s : List Int} {k : Nat} {fo : List (List Int × Nat)} (h : Prk W fo x s) (hp : Pts k fo) : 1 < x.length ↔ ∃ q ∈ fo, 1 < q.2 := by
  obtain ⟨t, u, v, n, hM⟩ := h.mt
  have hx := hM.smp
  constructor
  · intro hl
    refine Classical.byContradiction fun hn => ?_
    have e := h.g
    rw [g_one fun q hq => Nat.le_of_not_lt fun hh => hn ⟨q, hq, hh⟩] at e
    have : x = [1] := S_inj hx.t (tr_of_last (ys := []) (by decide)) (by rw [e, S_one]; rfl)
    rw [this] at hl
    exact absurd hl (by decide)
  · rintro ⟨q, hq, h1⟩
    obtain ⟨kk, hk, e⟩ := g_mem hq h1
    obtain ⟨hs, h2, _⟩ := hp.1 q hq
    have := pd_len hx.t hx.ne hs.t hs.ne (PD.of hk (h.g.trans e))
    omega
/-- the same greatest of a row and of what is left of it -/
theorem Mt.simp {row g a b u v x s t u2 v2 : List Int} {n n2 : Int} (ht : Tr row) (hne : row ≠ []) (h : Mt row (slp row) g a b u v n) (h2 : Mt (simp' row) (slp (simp' row)) x s t u2 v2 n2) : g = x := by
  have e1 := S_simp ht
  have c0 := sgc_ne ht hne
  have e2 : der (S row) = C (sgc row) * der (S (simp' row)) := by rw [← e1, der_Cmul]
  have p1 := h.pd1
  have p2 := h.pd2
  have r1 := h2.pd1
  have r2 := h2.pd2
  rw [S_slp] at p2 r2
  rw [← e1] at p1
  rw [e2] at p2
  refine Smp.eq h.smp h2.smp (h2.cb.common (Fin.S g) h.smp.prim (PD.out (Fin.S g) h.smp.prim c0 p1) (by rw [S_slp]; exact PD.out (Fin.S g) h.smp.prim c0 p2)) (h.cb.common (Fin.S x) h2.smp.prim (by rw [← e1]; exact r1.C _) (by rw [S_slp, e2]; exact r2.C _))
/-- a paper's sizes -/
def PpB (u v : List Int) (n : Int) : Prop := BdL 66000000 u ∧ BdL 66000000 v ∧ Bd 66000000 n ∧ u.length ≤ 2000 ∧ v.length ≤ 2000
theorem MtQ.own {A B : List Int} {a c : Nat} (hA : Tr A) (hne : A ≠ []) (hl : A.length ≤ 13) (ha : BdL a A) (h9 : a ≤ 60000) (hc : c ≤ 60000) (lb : B.length ≤ 13) : MtQ E2 A B a c := by
  intro L a' c' d g _ _ _ ht hgn _ _ h1 _
  have hp : 0 < g.length := List.length_pos_iff.mpr hgn
  have hg := pd_bd hA hne hl ha ht hgn h1
  have m1 : (A.length + 2 - g.length) * (a + 144 + 1) ≤ 15 * 60145 := Nat.mul_le_mul (by omega) (by omega)
  have m2 : (B.length + 2 - g.length) * (a + 144 + 1) ≤ 15 * 60145 := Nat.mul_le_mul (by omega) (by omega)
  exact ⟨a + 144, hg, by omega, by omega⟩
end Pa

namespace Pa
open Ser
/-! ### pieces: simple rows of two numbers -/
structure Lin (p : List Int) : Prop where
  s : Smp p
  l : p.length = 2
theorem Lin.rows {p : List Int} (h : Lin p) : ∃ b a, p = [b, a] ∧ a ≠ 0 := by
  obtain ⟨hs, hl⟩ := h
  match p, hl with
  | [b, a], _ => exact ⟨b, a, rfl, by have := hs.la; simp at this; omega⟩
theorem Lin.ser {p : List Int} {b a : Int} (h : p = [b, a]) : S p = C b + X * C a := by
  rw [h, S_cons, S_one]
theorem lin_ring (p xa b x r Q u c : Ser) (hp : p = b + xa) (ih : c * r = p * Q + u) (X a : Ser) (hx : xa = X * a) : a * c * (x + X * r) = p * (a * X * Q + u) + (a * c * x - b * u) := by
  have : a * c * (x + X * r) = a * c * x + X * a * (c * r) := by grind
  rw [this, ih, ← hx]
  have h2 : xa = p - b := by grind
  rw [h2]
  grind
/-- so many times a row is the piece times something, and a number -/
theorem Lin.rem {p : List Int} (h : Lin p) : ∀ f : List Int, ∃ (c u : Int) (Q : Ser), c ≠ 0 ∧ FinE Q ∧ C c * Pa.S f = Pa.S p * Q + C u
  | [] => ⟨1, 0, 0, by decide, ⟨0, Fin.zero 0⟩, by rw [S_nil]; have : (C 0 : Ser) = 0 := rfl; rw [this]; grind⟩
  | x :: r => by
    obtain ⟨b, a, e, ha⟩ := h.rows
    obtain ⟨c, u, Q, hc, hQ, ih⟩ := Lin.rem h r
    refine ⟨a * c, a * c * x - b * u, C a * Pa.X * Q + C u, Int.mul_ne_zero ha hc, ?_, ?_⟩
    · have fx : FinE Pa.X := by
        have : Pa.X = Pa.S [0, 1] := by
          rw [S_cons, S_one]
          have z : (C 0 : Ser) = 0 := rfl
          have o : (C 1 : Ser) = 1 := rfl
          rw [z, o]; grind
        rw [this]; exact FinE.S _
      exact (((FinE.C a).mul fx).mul hQ).add (FinE.C u)
    · rw [S_cons, C_mulC, C_sub, C_mulC, C_mulC, C_mulC]
      exact lin_ring (Pa.S p) (Pa.X * C a) (C b) (C x) (Pa.S r) Q (C u) (C c) (Lin.ser e) ih Pa.X (C a) rfl
/-- a number that a piece divides -/
theorem Lin.num {p : List Int} (h : Lin p) {u : Int} {k : Ser} (hk : FinE k) (e : C u = Pa.S p * k) : u = 0 := by
  obtain ⟨n, hk⟩ := hk
  rcases hk.cases with z | ⟨d, _, h1, h2⟩
  · rw [z] at e
    have : (Pa.S p * 0 : Ser) = C 0 := by
      have : (C 0 : Ser) = 0 := rfl
      rw [this]; grind
    rw [this] at e
    exact C_inj e
  · obtain ⟨t, _⟩ := Fin.top (Fin.Sl h.s.ne) h2
    rw [← e] at t
    have hl := h.l
    rw [show p.length - 1 + d = d + 1 by omega, C_succ] at t
    have := Int.mul_ne_zero (S_top h.s.t h.s.ne) h1
    rw [hl] at this t
    exact absurd t.symm this
theorem Lin.fin {p : List Int} (h : Lin p) {f : Ser} (hf : FinE f) : ∃ (c u : Int) (Q : Ser), c ≠ 0 ∧ FinE Q ∧ C c * f = Pa.S p * Q + C u := by
  obtain ⟨n, hf⟩ := hf
  obtain ⟨xs, _, e, _⟩ := hf.row
  obtain ⟨c, u, Q, h1, h2, h3⟩ := h.rem xs
  exact ⟨c, u, Q, h1, h2, by rw [← e]; exact h3⟩
theorem prime_ring (p Q1 Q2 u v c1 c2 f g : Ser) (e1 : c1 * f = p * Q1 + u) (e2 : c2 * g = p * Q2 + v) : u * v = c1 * c2 * (f * g) - p * (Q1 * (p * Q2 + v) + u * Q2) := by
  have h1 : u = c1 * f - p * Q1 := by grind
  have h2 : v = c2 * g - p * Q2 := by grind
  rw [h1, h2]
  grind
theorem Lin.prime {p : List Int} (h : Lin p) {f g : Ser} (hf : FinE f) (hg : FinE g) (hd : PD (Pa.S p) (f * g)) : PD (Pa.S p) f ∨ PD (Pa.S p) g := by
  obtain ⟨c1, u, Q1, n1, q1, e1⟩ := h.fin hf
  obtain ⟨c2, v, Q2, n2, q2, e2⟩ := h.fin hg
  obtain ⟨n, k, hk, ek⟩ := hd
  have e := prime_ring (Pa.S p) Q1 Q2 (C u) (C v) (C c1) (C c2) f g e1 e2
  rw [ek, ← C_mulC, ← C_mulC] at e
  have e3 : C (u * v) = Pa.S p * (C (c1 * c2) * k - (Q1 * (Pa.S p * Q2 + C v) + C u * Q2)) := by rw [e]; grind
  have fk : FinE k := ⟨n, hk⟩
  have z := h.num (((FinE.C _).mul fk).sub ((q1.mul (((FinE.S p).mul q2).add (FinE.C v))).add ((FinE.C u).mul q2))) e3
  rcases Int.mul_eq_zero.mp z with z | z
  · refine .inl (PD.out (Fin.S p) h.s.prim n1 (PD.of q1 ?_))
    rw [e1, z]
    have : (C 0 : Ser) = 0 := rfl
    rw [this]; grind
  · refine .inr (PD.out (Fin.S p) h.s.prim n2 (PD.of q2 ?_))
    rw [e2, z]
    have : (C 0 : Ser) = 0 := rfl
    rw [this]; grind
theorem Lin.eq {p q : List Int} (h : Lin p) (h2 : Lin q) (hd : PD (Pa.S p) (Pa.S q)) : p = q := by
  obtain ⟨k, hk⟩ := hd.whole
  have sk : Smp k := h2.s.div h.s hk.1 hk.2
  obtain ⟨_, e, _⟩ := prod_len h2.s.t h.s.t hk.1 h.s.ne sk.ne hk.2
  have l1 := h.l
  have l2 := h2.l
  have k1 := sk.one (by omega)
  have e2 := hk.2
  rw [k1, S_one] at e2
  refine S_inj h.s.t h2.s.t ?_
  rw [e2]
  have o : (C 1 : Ser) = 1 := rfl
  rw [o]; grind
theorem Lin.not_one {p : List Int} (h : Lin p) : ¬ PD (Pa.S p) 1 := fun ⟨n, k, hk, e⟩ => by
  have := h.num (u := 1) ⟨n, hk⟩ e
  omega
theorem Lin.pow {p : List Int} (h : Lin p) {f : Ser} (hf : FinE f) : ∀ n : Nat, PD (Pa.S p) (f ^ n) → PD (Pa.S p) f
  | 0, hd => absurd hd h.not_one
  | n + 1, hd => by
    rw [ser_pow_succ] at hd
    rcases h.prime (hf.pow n) hf hd with h1 | h1
    · exact Lin.pow h hf n h1
    · exact h1
theorem Lin.inProd {p : List Int} (h : Lin p) : ∀ {X : List (List Int × Nat)}, PD (Pa.S p) (prodS X) → ∃ q ∈ X, PD (Pa.S p) (Pa.S q.1)
  | [], hd => absurd hd h.not_one
  | (f, m) :: r, hd => by
    rcases h.prime ((FinE.S f).pow m) (FinE.prodS r) hd with h1 | h1
    · exact ⟨(f, m), List.mem_cons_self, h.pow (FinE.S f) m h1⟩
    · obtain ⟨q, hq, h2⟩ := Lin.inProd h h1
      exact ⟨q, List.mem_cons_of_mem _ hq, h2⟩
/-- products of pieces -/
def prodL : List (List Int) → Ser
  | [] => 1
  | p :: r => S p * prodL r
theorem FinE.prodL : ∀ l : List (List Int), FinE (Pa.prodL l)
  | [] => FinE.one
  | p :: r => (FinE.S p).mul (FinE.prodL r)
theorem prodL_app : ∀ l m : List (List Int), prodL (l ++ m) = prodL l * prodL m
  | [], m => by
    show prodL m = 1 * prodL m
    grind
  | p :: r, m => by
    show S p * prodL (r ++ m) = S p * prodL r * prodL m
    rw [prodL_app r m]; grind
theorem prodL_mem : ∀ {l : List (List Int)} {p : List Int}, p ∈ l → PD (S p) (prodL l)
  | a :: r, p, h => by
    rcases List.mem_cons.mp h with e | h
    · subst e
      exact PD.of (FinE.prodL r) rfl
    · obtain ⟨n, k, hk, e⟩ := prodL_mem h
      refine PD.of (k := S a * k) ((FinE.S a).mul ⟨n, hk⟩) ?_
      show S a * prodL r = _
      rw [e]; grind
theorem Lin.inL {p : List Int} (h : Lin p) : ∀ {l : List (List Int)}, (∀ q ∈ l, Lin q) → PD (S p) (prodL l) → p ∈ l
  | [], _, hd => absurd hd h.not_one
  | a :: r, hl, hd => by
    rcases h.prime (FinE.S a) (FinE.prodL r) hd with h1 | h1
    · rw [h.eq (hl a List.mem_cons_self) h1]; exact List.mem_cons_self
    · exact List.mem_cons_of_mem _ (Lin.inL h (fun q hq => hl q (List.mem_cons_of_mem _ hq)) h1)
/-- no piece twice -/
def NSq (f : Ser) : Prop := ∀ p, Lin p → ¬ PD (S p * S p) f
theorem nsq_prodL : ∀ {l : List (List Int)}, (∀ q ∈ l, Lin q) → l.Nodup → NSq (prodL l)
  | [], _, _ => fun p hp ⟨n, k, hk, e⟩ => hp.not_one (PD.of (k := S p * k) ((FinE.S p).mul ⟨n, hk⟩) (by rw [show (1 : Ser) = prodL [] from rfl, e]; grind))
  | a :: r, hl, hn => fun p hp hd => by
    obtain ⟨h1, h2⟩ := List.nodup_cons.mp hn
    have ha := hl a List.mem_cons_self
    have hr : ∀ q ∈ r, Lin q := fun q hq => hl q (List.mem_cons_of_mem _ hq)
    obtain ⟨n, k, hk, e⟩ := hd
    have e' : S a * prodL r = S p * (S p * k) := by
      have : S a * prodL r = S p * S p * k := e
      rw [this]; grind
    by_cases hpa : p = a
    · subst hpa
      have e2 := cancel_left hp.s.t hp.s.ne (FinE.prodL r) ((FinE.S p).mul ⟨n, hk⟩) e'
      exact h1 (hp.inL hr (PD.of ⟨n, hk⟩ e2))
    · have d1 : PD (S p) (S a * prodL r) := PD.of ((FinE.S p).mul ⟨n, hk⟩) e'
      rcases hp.prime (FinE.S a) (FinE.prodL r) d1 with h3 | h3
      · exact hpa (hp.eq ha h3)
      · obtain ⟨n2, k2, hk2, e2⟩ := h3
        rw [e2] at e'
        have e3 : S a * k2 = S p * k := by
          refine cancel_left hp.s.t hp.s.ne ((FinE.S a).mul ⟨n2, hk2⟩) ((FinE.S p).mul ⟨n, hk⟩) ?_
          have : S p * (S a * k2) = S a * (S p * k2) := by grind
          rw [this, e']
        rcases hp.prime (FinE.S a) ⟨n2, hk2⟩ (PD.of ⟨n, hk⟩ e3) with h4 | h4
        · exact hpa (hp.eq ha h4)
        · obtain ⟨n5, k5, hk5, e5⟩ := h4
          refine nsq_prodL hr h2 p hp (PD.of ⟨n5, hk5⟩ ?_)
          rw [e2, e5]; grind
/-- how often a piece stands in a product of parts -/
theorem often {X : List (List Int × Nat)} {p : List Int} {q : List Int × Nat} (hp : Lin p) (hn : NSq (radS X)) (hq : q ∈ X) (hd : PD (S p) (S q.1)) : ∃ M, FinE M ∧ prodS X = S p ^ q.2 * M ∧ ¬ PD (S p) M := by
  obtain ⟨A, B, e⟩ := List.append_of_mem hq
  obtain ⟨n, m, hm, em⟩ := hd
  have prA : ∀ A B : List (List Int × Nat), prodS (A ++ B) = prodS A * prodS B := by
    intro A
    induction A with
    | nil => intro B; show prodS B = 1 * prodS B; grind
    | cons a r ih =>
      intro B
      show S a.1 ^ a.2 * prodS (r ++ B) = S a.1 ^ a.2 * prodS r * prodS B
      rw [ih]; grind
  have raA : ∀ A B : List (List Int × Nat), radS (A ++ B) = radS A * radS B := by
    intro A
    induction A with
    | nil => intro B; show radS B = 1 * radS B; grind
    | cons a r ih =>
      intro B
      show S a.1 * radS (r ++ B) = S a.1 * radS r * radS B
      rw [ih]; grind
  have inRad : ∀ {Y : List (List Int × Nat)}, PD (S p) (prodS Y) → PD (S p) (radS Y) := fun {Y} h => by
    obtain ⟨q', hq', h1⟩ := hp.inProd h
    obtain ⟨k, hk, ek⟩ := rad_mem hq'
    obtain ⟨m2, hk⟩ := hk
    rw [ek]
    exact h1.mul hk
  have eR : radS X = S p * (m * (radS A * radS B)) := by
    rw [e, raA]
    show radS A * (S q.1 * radS B) = _
    rw [em]; grind
  have no : ¬ PD (S p) (m * (radS A * radS B)) := fun ⟨n2, k, hk, ek⟩ => hn p hp (PD.of ⟨n2, hk⟩ (by rw [eR, ek]; grind))
  refine ⟨m ^ q.2 * (prodS A * prodS B), (FinE.pow ⟨n, hm⟩ _).mul ((FinE.prodS A).mul (FinE.prodS B)), ?_, fun h => ?_⟩
  · rw [e, prA]
    show prodS A * (S q.1 ^ q.2 * prodS B) = _
    rw [em, ser_mul_pow]; grind
  · obtain ⟨na, ha⟩ := FinE.radS A
    obtain ⟨nb, hb⟩ := FinE.radS B
    rcases hp.prime (FinE.pow ⟨n, hm⟩ _) ((FinE.prodS A).mul (FinE.prodS B)) h with h1 | h1
    · exact no ((hp.pow ⟨n, hm⟩ _ h1).mul ((ha.mul hb)))
    · rcases hp.prime (FinE.prodS A) (FinE.prodS B) h1 with h2 | h2
      · refine no ?_
        rw [mul_comm']
        exact ((inRad h2).mul hb).mul hm
      · refine no ?_
        rw [mul_comm', mul_comm' (radS A)]
        exact ((inRad h2).mul ha).mul hm
theorem same_often {p : List Int} (hp : Lin p) {M N : Ser} (hM : FinE M) (hN : FinE N) (h1 : ¬ PD (S p) M) (h2 : ¬ PD (S p) N) : ∀ {j k : Nat}, S p ^ j * M = S p ^ k * N → j = k
  | 0, 0, _ => rfl
  | 0, k + 1, e => absurd (PD.of (k := S p ^ k * N) (((FinE.S p).pow k).mul hN) (by
      have : M = S p ^ 0 * M := by rw [ser_pow_zero]; grind
      rw [this, e, ser_pow_succ]; grind)) h1
  | j + 1, 0, e => absurd (PD.of (k := S p ^ j * M) (((FinE.S p).pow j).mul hM) (by
      have : N = S p ^ 0 * N := by rw [ser_pow_zero]; grind
      rw [this, ← e, ser_pow_succ]; grind)) h2
  | j + 1, k + 1, e => by
    have := same_often hp hM hN h1 h2 (j := j) (k := k) (cancel_left hp.s.t hp.s.ne (((FinE.S p).pow j).mul hM) (((FinE.S p).pow k).mul hN) (by
      rw [ser_pow_succ, ser_pow_succ] at e
      have r1 : S p * (S p ^ j * M) = S p ^ j * S p * M := by grind
      have r2 : S p * (S p ^ k * N) = S p ^ k * S p * N := by grind
      rw [r1, r2, e]))
    rw [this]
/-- what divides a product of pieces is one -/
theorem split_div : ∀ {l : List (List Int)} {y : List Int} {w : Ser}, (∀ q ∈ l, Lin q) → Smp y → FinE w → prodL l = S y * w → ∃ m : List (List Int), (∀ q ∈ m, Lin q) ∧ S y = prodL m
  | [], y, w, _, hy, hw, e => by
    obtain ⟨n, hw⟩ := hw
    obtain ⟨ws, tw, ew, _⟩ := hw.row
    have e1 : S [1] = S y * S ws := by
      rw [S_one, ew, ← e]; rfl
    obtain ⟨_, nw⟩ := ne_of_prod (A := [1]) (by simp) (tr_of_last (ys := []) (by decide)) e1
    obtain ⟨_, le, _⟩ := prod_len (A := [1]) (tr_of_last (ys := []) (by decide)) hy.t tw hy.ne nw e1
    have pw' : 0 < ws.length := List.length_pos_iff.mpr nw
    have := hy.pos
    have l1 : y = [1] := hy.one (by simp at le; omega)
    exact ⟨[], fun q hq => (nomatch hq), by rw [l1, S_one]; rfl⟩
  | p :: r, y, w, hl, hy, hw, e => by
    have hp := hl p List.mem_cons_self
    have hr : ∀ q ∈ r, Lin q := fun q hq => hl q (List.mem_cons_of_mem _ hq)
    have e' : S y * w = S p * prodL r := e.symm
    rcases hp.prime (FinE.S y) hw (PD.of (FinE.prodL r) e') with h1 | h1
    · obtain ⟨y2, h2, e2⟩ := h1.whole
      have sy := hy.div hp.s h2 e2
      have e3 : prodL r = S y2 * w := by
        refine cancel_left hp.s.t hp.s.ne (FinE.prodL r) ((FinE.S y2).mul hw) ?_
        rw [← e', e2]; grind
      obtain ⟨m, m1, m2⟩ := split_div hr sy hw e3
      refine ⟨p :: m, fun q hq => ?_, ?_⟩
      · rcases List.mem_cons.mp hq with h | h
        · rw [h]; exact hp
        · exact m1 q h
      · rw [e2, m2]; rfl
    · obtain ⟨n2, k, hk, ek⟩ := h1
      refine split_div hr hy ⟨n2, hk⟩ ?_
      refine cancel_left hp.s.t hp.s.ne (FinE.prodL r) ((FinE.S y).mul ⟨n2, hk⟩) ?_
      rw [← e', ek]; grind
/-- unlike pieces that divide a row: their product does -/
theorem all_div : ∀ {l : List (List Int)} {f : Ser}, (∀ q ∈ l, Lin q) → NSq (prodL l) → FinE f → (∀ q ∈ l, PD (S q) f) → PD (prodL l) f
  | [], f, _, _, hf, _ => PD.of hf (by show f = 1 * f; grind)
  | p :: r, f, hl, hn, hf, hd => by
    have hp := hl p List.mem_cons_self
    have hr : ∀ q ∈ r, Lin q := fun q hq => hl q (List.mem_cons_of_mem _ hq)
    obtain ⟨n, g, hg, eg⟩ := hd p List.mem_cons_self
    have hnr : NSq (prodL r) := fun q hq ⟨n2, k, hk, ek⟩ => hn q hq (PD.of (k := S p * k) ((FinE.S p).mul ⟨n2, hk⟩) (by
      show S p * prodL r = _
      rw [ek]; grind))
    have := all_div hr hnr ⟨n, hg⟩ fun q hq => by
      have h1 := hd q (List.mem_cons_of_mem _ hq)
      rw [eg] at h1
      rcases (hr q hq).prime (FinE.S p) ⟨n, hg⟩ h1 with h2 | h2
      · have e := (hr q hq).eq hp h2
        subst e
        obtain ⟨n2, k, hk, ek⟩ := prodL_mem hq
        exact absurd (PD.of ⟨n2, hk⟩ (by
          show S q * prodL r = S q * S q * k
          rw [ek]; grind)) (hn q hp)
      · exact h2
    obtain ⟨n2, k, hk, ek⟩ := this
    refine PD.of ⟨n2, hk⟩ ?_
    show f = S p * prodL r * k
    rw [eg, ek]; grind
/-- parts of pieces: one list alone -/
structure Lp' (X : List (List Int × Nat)) (k : Nat) : Prop where
  pts : Pts k X
  nsq : NSq (radS X)
theorem rise_unique {X : List (List Int × Nat)} {k : Nat} (h : Pts k X) {p q : List Int × Nat} (hp : p ∈ X) (hq : q ∈ X) (e : p.2 = q.2) : p = q := by
  obtain ⟨i, hi, rfl⟩ := List.getElem_of_mem hp
  obtain ⟨j, hj, rfl⟩ := List.getElem_of_mem hq
  have hw := List.pairwise_iff_getElem.mp h.2
  have : i = j := by
    rcases Nat.lt_trichotomy i j with h1 | h1 | h1
    · have := hw i j hi hj h1; omega
    · exact h1
    · have := hw j i hj hi h1; omega
  subst this; rfl
theorem half {X Y : List (List Int × Nat)} {kx ky : Nat} {l : List (List Int)} (hX : Lp' X kx) (hY : Lp' Y ky) (hl : ∀ q ∈ l, Lin q) (eX : prodS X = prodL l) (eY : prodS Y = prodL l) {q : List Int × Nat} (hq : q ∈ X) :
    ∃ q' ∈ Y, q'.2 = q.2 ∧ PD (S q.1) (S q'.1) := by
  obtain ⟨hs, h2, h3, _⟩ := hX.pts.1 q hq
  obtain ⟨k, hk, ek⟩ := prodS_mem hq
  obtain ⟨j, hj⟩ : ∃ j, q.2 = j + 1 := ⟨q.2 - 1, by omega⟩
  have e1 : prodL l = S q.1 * (S q.1 ^ j * k) := by rw [← eX, ek, hj, ser_pow_succ]; grind
  obtain ⟨m, hm, em⟩ := split_div hl hs (((FinE.S _).pow j).mul hk) e1
  have hnm : NSq (prodL m) := fun p hp ⟨n2, k2, hk2, ek2⟩ => by
    obtain ⟨k3, hk3, ek3⟩ := rad_mem hq
    refine hX.nsq p hp (PD.of (k := k2 * k3) (FinE.mul ⟨n2, hk2⟩ hk3) ?_)
    rw [ek3, em, ek2]; grind
  have each : ∀ p ∈ m, ∃ q' ∈ Y, q'.2 = q.2 ∧ PD (S p) (S q'.1) := fun p hp => by
    have lp := hm p hp
    have d1 : PD (S p) (S q.1) := by rw [em]; exact prodL_mem hp
    obtain ⟨M, fM, eM, nM⟩ := often lp hX.nsq hq d1
    have d2 : PD (S p) (prodS Y) := by
      rw [eY, e1]
      exact d1.mul (show Fin _ (S q.1 ^ j * k) from (((FinE.S q.1).pow j).mul hk).choose_spec)
    obtain ⟨q', hq', d3⟩ := lp.inProd d2
    obtain ⟨N, fN, eN, nN⟩ := often lp hY.nsq hq' d3
    exact ⟨q', hq', (same_often lp fN fM nN nM (by rw [← eN, ← eM, eX, eY])), d3⟩
  have mne : m ≠ [] := fun z => by
    rw [z] at em
    have : q.1 = [1] := S_inj hs.t (tr_of_last (ys := []) (by decide)) (by rw [em, S_one]; rfl)
    rw [this] at h2
    exact absurd h2 (by decide)
  obtain ⟨p0, hp0⟩ := List.exists_mem_of_ne_nil m mne
  obtain ⟨q', hq', e2, _⟩ := each p0 hp0
  refine ⟨q', hq', e2, ?_⟩
  rw [em]
  refine all_div hm hnm (FinE.S _) fun p hp => ?_
  obtain ⟨q2, hq2, e3, d⟩ := each p hp
  rw [rise_unique hY.pts hq' hq2 (e2.trans e3.symm)]
  exact d
theorem one_list {X Y : List (List Int × Nat)} {kx ky : Nat} {l : List (List Int)} (hX : Lp' X kx) (hY : Lp' Y ky) (hl : ∀ q ∈ l, Lin q) (eX : prodS X = prodL l) (eY : prodS Y = prodL l) : X = Y := by
  have sub : ∀ {X Y : List (List Int × Nat)} {kx ky : Nat}, Lp' X kx → Lp' Y ky → prodS X = prodL l → prodS Y = prodL l → ∀ q ∈ X, q ∈ Y := fun {X Y kx ky} hX hY eX eY q hq => by
    obtain ⟨q', hq', e1, d1⟩ := half hX hY hl eX eY hq
    obtain ⟨q2, hq2, e2, d2⟩ := half hY hX hl eY eX hq'
    have := rise_unique hX.pts hq hq2 (e1.symm.trans e2.symm)
    subst this
    have e3 : q.1 = q'.1 := Smp.eq (hX.pts.1 q hq).1 (hY.pts.1 q' hq').1 d1 d2
    have : q = q' := Prod.ext e3 e1.symm
    rw [this]; exact hq'
  have sorted_eq : ∀ {X Y : List (List Int × Nat)}, X.Pairwise (fun p q => p.2 < q.2) → Y.Pairwise (fun p q => p.2 < q.2) → (∀ q ∈ X, q ∈ Y) → (∀ q ∈ Y, q ∈ X) → X = Y := by
    intro X
    induction X with
    | nil => intro Y _ _ _ h; exact (List.eq_nil_iff_forall_not_mem.mpr fun q hq => nomatch h q hq).symm
    | cons a r ih =>
      intro Y h1 h2 h3 h4
      match Y, h2, h3, h4 with
      | [], _, h3, _ => exact absurd (h3 a List.mem_cons_self) (by simp)
      | b :: s, h2, h3, h4 =>
        obtain ⟨a1, a2⟩ := List.pairwise_cons.mp h1
        obtain ⟨b1, b2⟩ := List.pairwise_cons.mp h2
        have hab : a = b := by
          rcases List.mem_cons.mp (h3 a List.mem_cons_self) with h | h
          · exact h
          · rcases List.mem_cons.mp (h4 b List.mem_cons_self) with h' | h'
            · exact h'.symm
            · have := b1 a h
              have := a1 b h'
              omega
        subst hab
        rw [ih a2 b2 (fun q hq => ?_) (fun q hq => ?_)]
        · rcases List.mem_cons.mp (h3 q (List.mem_cons_of_mem _ hq)) with h | h
          · subst h
            have := a1 _ hq
            omega
          · exact h
        · rcases List.mem_cons.mp (h4 q (List.mem_cons_of_mem _ hq)) with h | h
          · subst h
            have := b1 _ hq
            omega
          · exact h
  exact sorted_eq hX.pts.2 hY.pts.2 (sub hX hY eX eY) (sub hY hX eY eX)
/-- what parts tells has no piece twice -/
theorem Prk.nsq {W x s : List Int} {fo : List (List Int × Nat)} (h : Prk W fo x s) : NSq (radS fo) := fun p hp ⟨n, k, hk, e⟩ => by
  obtain ⟨t, u, v, n', hM⟩ := h.mt
  rw [← h.rad] at e
  have e' : S s = S p * (S p * k) := by rw [e]; grind
  have := sqf h.sw hM hp.s (PD.of ((FinE.S p).mul ⟨n, hk⟩) e') (by
    rw [e', der_mul]
    refine PD.of (k := der (S p) * k + der (S p * k)) ?_ ?_
    · exact ((FinE.S p).der.mul ⟨n, hk⟩).add ((FinE.S p).mul ⟨n, hk⟩).der
    · grind)
  have hl := hp.l
  rw [this] at hl
  exact absurd hl (by decide)
end Pa

namespace Pa
/-! ### meet's turns, all ways reckoned -/
def okB (L1 L2 A1 A2 c1 c2 d1 d2 : Nat) : Bool :=
  Nat.ble L1 40 && (Nat.ble L2 40 && (Nat.ble (A1 + (L1 + 2 - L2) * (A2 + 1) + A2 + 1) 134217728 && (Nat.ble ((L1 + 1 - L2) * A2 + 1 + d2 + c1) 134217728 &&
    (Nat.ble (A1 + (L1 + 1 - L2) * (A2 + 1) + d1 + c2) 134217728 && (Nat.ble (d1 + d2 + (A1 + (L1 + 1 - L2) * (A2 + 1))) 134217728 && (Nat.ble c2 66000000 && (Nat.ble d2 66000000 && Nat.ble A2 66000000)))))))
def chk : Nat → Nat → Nat → Nat → Nat → Nat → Nat → Nat → Nat → Bool
  | 0, _, _, _, _, _, _, _, _ => false
  | f + 1, L1, L2, A1, A2, c1, c2, d1, d2 => okB L1 L2 A1 A2 c1 c2 d1 d2 && (List.range L2).all fun L => Nat.beq L 0 || chk f L2 L A2 (nA L1 L2 A1 A2) c2 (nC L1 L2 A1 A2 c1 c2 d1 d2) d2 (nD L1 L2 A1 A2 d1 d2)
theorem chk_go : ∀ f L1 L2 A1 A2 c1 c2 d1 d2, chk f L1 L2 A1 A2 c1 c2 d1 d2 = true → Go E2 L1 L2 A1 A2 c1 c2 d1 d2
  | 0, _, _, _, _, _, _, _, _, h => nomatch h
  | f + 1, L1, L2, A1, A2, c1, c2, d1, d2, h => by
    rw [chk, Bool.and_eq_true] at h
    obtain ⟨h1, h2⟩ := h
    unfold okB at h1
    simp only [Bool.and_eq_true, Nat.ble_eq] at h1
    obtain ⟨a1, a2, a3, a4, a5, a6, a7, a8, a9⟩ := h1
    refine .mk ⟨⟨a1, a2⟩, a3, a4, a5, a6⟩ ⟨a7, a8, a9⟩ fun L k1 k2 => ?_
    have := List.all_eq_true.mp h2 L (List.mem_range.mpr k2)
    rw [Bool.or_eq_true] at this
    rcases this with e | e
    · have := Nat.eq_of_beq_eq_true e
      omega
    · exact chk_go f _ _ _ _ _ _ _ _ e
theorem chk13 : chk 20 13 12 670 674 1 1 670 674 = true := by decide +kernel
theorem chk12 : ((List.range 12).all fun l => Nat.beq l 0 || chk 20 12 l 814 1780 1 1 814 1780) = true := by decide +kernel
theorem chk11 : ((List.range 11).all fun l => Nat.beq l 0 || chk 20 11 l 814 1780 1 1 814 1780) = true := by decide +kernel
end Pa

namespace Pa
open PySem PySem.Spec PyProof.Rows L2
/-- pieces in store -/
abbrev Pc3 := Addr × List Int × Nat
def pcf (qs : List Pc3) : Fs := qs.map fun q => (q.1, HO.lst (zV q.2.1))
def pcv (qs : List Pc3) : List V := qs.map fun q => .ref q.1
def pcr (qs : List Pc3) : List (List Int) := qs.map fun q => q.2.1
def pcc (qs : List Pc3) : List Int := qs.map fun q => (q.2.2 : Int)
def pcs (qs : List Pc3) : Nat := (qs.map fun q => q.2.2).sum
structure PcB (qs : List Pc3) : Prop where
  all : ∀ q ∈ qs, Lin q.2.1 ∧ BdL 40 q.2.1 ∧ 1 ≤ q.2.2 ∧ q.2.2 ≤ 12
  nd : (pcr qs).Nodup
  sum : pcs qs ≤ 12
  len : qs.length ≤ 5
theorem PcB.rev {qs : List Pc3} (h : PcB qs) : PcB qs.reverse := by
  refine ⟨fun q hq => h.all q (List.mem_reverse.mp hq), ?_, ?_, by rw [List.length_reverse]; exact h.len⟩
  · have := h.nd
    unfold pcr at this ⊢
    rw [List.map_reverse]
    exact (List.reverse_perm _).nodup_iff.mpr this
  · have := h.sum
    unfold pcs at this ⊢
    rw [List.map_reverse, List.sum_reverse]
    exact this
theorem mem_pcf {q : Pc3} {qs : List Pc3} (h : q ∈ qs) : (q.1, HO.lst (zV q.2.1)) ∈ pcf qs := List.mem_map.mpr ⟨q, h, rfl⟩
end Pa
namespace Pa
open Ser
/-! ### the law's parts, made of pieces -/
theorem Smp.mul {x y : List Int} (hx : Smp x) (hy : Smp y) : Smp (tm x y) ∧ (tm x y).length + 1 = x.length + y.length := by
  obtain ⟨n, l, e⟩ := prod_len (A := tm x y) (tm_tr _ _) hx.t hy.t hx.ne hy.ne (S_tm x y)
  refine ⟨⟨tm_tr _ _, n, cont_of_prim fun d hd => ?_, ?_⟩, l⟩
  · rw [S_tm] at hd
    by_cases h0 : d = 0
    · subst h0
      have z : S x * S y = 0 := Ser.ext fun i => by
        rw [zero_at]
        exact Int.zero_dvd.mp (hd i)
      exact absurd z (ne_mul (FinE.S x) (FinE.S y) hx.nz hy.nz)
    · exact hy.prim d (gauss (Nat.pos_of_ne_zero h0) (Fin.S x) (Fin.S y) hx.prim hd)
  · have a1 := hx.la
    have a2 := hy.la
    rw [last_S] at a1 a2 ⊢
    rw [e]
    exact Int.mul_pos a1 a2
def grp (qs : List Pc3) (c : Nat) : List (List Int) := (qs.filter fun q => decide (q.2.2 = c)).map fun q => q.2.1
def ptr (qs : List Pc3) (c : Nat) : List Int := (grp qs c).foldl (fun r q => tm r q) [1]
theorem grp_snoc (qs : List Pc3) (q : Pc3) (c : Nat) : grp (qs ++ [q]) c = if q.2.2 = c then grp qs c ++ [q.2.1] else grp qs c := by
  unfold grp
  rw [List.filter_append, List.map_append]
  by_cases h : q.2.2 = c
  · rw [if_pos h]; simp [h]
  · rw [if_neg h]; simp [h]
theorem ptr_snoc (qs : List Pc3) (q : Pc3) (c : Nat) : ptr (qs ++ [q]) c = if q.2.2 = c then tm (ptr qs c) q.2.1 else ptr qs c := by
  unfold ptr
  rw [grp_snoc]
  by_cases h : q.2.2 = c
  · rw [if_pos h, if_pos h, List.foldl_append]; rfl
  · rw [if_neg h, if_neg h]
theorem fold_facts : ∀ (l : List (List Int)) (acc : List Int) (B : Nat), (∀ p ∈ l, Lin p ∧ BdL 40 p) → Smp acc → BdL B acc → acc.length + l.length ≤ 8 → Smp (l.foldl (fun r q => tm r q) acc) ∧ (l.foldl (fun r q => tm r q) acc).length = acc.length + l.length ∧ BdL (B + 43 * l.length) (l.foldl (fun r q => tm r q) acc) ∧ S (l.foldl (fun r q => tm r q) acc) = S acc * prodL l
  | [], acc, B, _, ha, hb, _ => ⟨ha, rfl, hb, by show S acc = S acc * 1; grind⟩
  | p :: r, acc, B, hl, ha, hb, hn => by
    obtain ⟨hp, hpb⟩ := hl p List.mem_cons_self
    obtain ⟨s1, e1⟩ := ha.mul hp.s
    have hpl := hp.l
    rw [List.length_cons] at hn
    have tb := tm_bd (c := 3) hb hpb (by omega)
    obtain ⟨i1, i2, i3, i4⟩ := fold_facts r (tm acc p) (B + 43) (fun q hq => hl q (List.mem_cons_of_mem _ hq)) s1 (tb.mono (by omega)) (by omega)
    refine ⟨i1, by rw [List.foldl_cons, i2, List.length_cons]; omega, ?_, ?_⟩
    · rw [List.foldl_cons, List.length_cons]
      exact i3.mono (by omega)
    · rw [List.foldl_cons, i4, S_tm]
      show S acc * S p * prodL r = S acc * (S p * prodL r)
      grind
theorem smp_one : Smp [1] := ⟨tr_of_last (ys := []) (by decide), by simp, rfl, by decide⟩
theorem bd_one : BdL 1 [1] := fun x hx => by rw [List.mem_singleton.mp hx]; exact (by decide : (1 : Int).natAbs < 2 ^ 1)
theorem grp_mem {qs : List Pc3} {c : Nat} {p : List Int} (h : p ∈ grp qs c) : ∃ q ∈ qs, q.2.1 = p ∧ q.2.2 = c := by
  obtain ⟨q, hq, e⟩ := List.mem_map.mp h
  obtain ⟨h1, h2⟩ := List.mem_filter.mp hq
  exact ⟨q, h1, e, of_decide_eq_true h2⟩
theorem mem_grp {qs : List Pc3} {q : Pc3} (h : q ∈ qs) : q.2.1 ∈ grp qs q.2.2 := List.mem_map.mpr ⟨q, List.mem_filter.mpr ⟨h, decide_eq_true rfl⟩, rfl⟩
theorem grp_len (qs : List Pc3) (c : Nat) : (grp qs c).length ≤ qs.length := by
  unfold grp
  rw [List.length_map]
  exact List.length_filter_le _ _
theorem ptr_facts {qs : List Pc3} (h : ∀ q ∈ qs, Lin q.2.1 ∧ BdL 40 q.2.1) (hl : qs.length ≤ 5) (c : Nat) : Smp (ptr qs c) ∧ (ptr qs c).length = 1 + (grp qs c).length ∧ BdL (1 + 43 * (grp qs c).length) (ptr qs c) ∧ S (ptr qs c) = prodL (grp qs c) := by
  have gl := grp_len qs c
  obtain ⟨a, b, d, e⟩ := fold_facts (grp qs c) [1] 1 (fun p hp => by
    obtain ⟨q, hq, e, _⟩ := grp_mem hp
    rw [← e]; exact h q hq) smp_one bd_one (by rw [List.length_singleton]; omega)
  refine ⟨a, b, d, ?_⟩
  show S ((grp qs c).foldl _ [1]) = _
  rw [e, S_one]
  have o : (C 1 : Ser) = 1 := rfl
  rw [o]; grind
def wsum (qs : List Pc3) : Nat → Nat
  | 0 => 0
  | n + 1 => wsum qs n + (n + 1) * (grp qs (n + 1)).length
theorem grp_cons (q : Pc3) (qs : List Pc3) (c : Nat) : (grp (q :: qs) c).length = (if q.2.2 = c then 1 else 0) + (grp qs c).length := by
  unfold grp
  rw [List.filter_cons]
  by_cases h : q.2.2 = c
  · simp [h]; omega
  · simp [h]
theorem wsum_cons (q : Pc3) (qs : List Pc3) : ∀ n : Nat, wsum (q :: qs) n = wsum qs n + (if 1 ≤ q.2.2 ∧ q.2.2 ≤ n then q.2.2 else 0)
  | 0 => by
    show 0 = 0 + _
    rw [if_neg (by omega)]
  | n + 1 => by
    show wsum (q :: qs) n + (n + 1) * (grp (q :: qs) (n + 1)).length = wsum qs n + (n + 1) * (grp qs (n + 1)).length + _
    rw [wsum_cons q qs n, grp_cons, Nat.mul_add]
    by_cases h : q.2.2 = n + 1
    · rw [if_neg (by omega), if_pos h, if_pos (by omega), h]; omega
    · rw [if_neg h]
      by_cases h2 : 1 ≤ q.2.2 ∧ q.2.2 ≤ n
      · rw [if_pos h2, if_pos (by omega)]; omega
      · rw [if_neg h2, if_neg (by omega)]; omega
theorem wsum_nil : ∀ n : Nat, wsum [] n = 0
  | 0 => rfl
  | n + 1 => by
    show wsum [] n + (n + 1) * (grp [] (n + 1)).length = 0
    rw [wsum_nil n]; rfl
theorem wsum_pcs : ∀ qs : List Pc3, (∀ q ∈ qs, 1 ≤ q.2.2 ∧ q.2.2 ≤ 12) → wsum qs 12 = pcs qs
  | [], _ => wsum_nil 12
  | q :: qs, h => by
    rw [wsum_cons, wsum_pcs qs fun q' hq' => h q' (List.mem_cons_of_mem _ hq'), if_pos (h q List.mem_cons_self)]
    unfold pcs
    rw [List.map_cons, List.sum_cons]; omega
theorem wsum_mono (qs : List Pc3) : ∀ {n m : Nat}, n ≤ m → wsum qs n ≤ wsum qs m := fun {n m} h => by
  induction m with
  | zero =>
    have : n = 0 := by omega
    rw [this]; exact Nat.le_refl _
  | succ m ih =>
    by_cases h1 : n = m + 1
    · rw [h1]; exact Nat.le_refl _
    · exact Nat.le_trans (ih (by omega)) (Nat.le_add_right _ _)
def dueL (qs : List Pc3) : Nat → List (List Int × Nat)
  | 0 => []
  | n + 1 => dueL qs n ++ (if 1 < (ptr qs (n + 1)).length then [(ptr qs (n + 1), n + 1)] else [])
theorem prodS_dueL {qs : List Pc3} (h : ∀ q ∈ qs, Lin q.2.1 ∧ BdL 40 q.2.1) (hl : qs.length ≤ 5) (n : Nat) : prodS (dueL qs (n + 1)) = prodS (dueL qs n) * S (ptr qs (n + 1)) ^ (n + 1) := by
  show prodS (dueL qs n ++ _) = _
  split
  · rw [prodS_app]
  · rename_i hc
    have := (ptr_facts h hl (n + 1)).1.one (by omega)
    rw [this, S_one, List.append_nil]
    have r : (C 1 : Ser) ^ (n + 1) = 1 := ser_one_pow (n + 1)
    rw [r]; grind
theorem dueL_mem {qs : List Pc3} : ∀ {n : Nat} {q : List Int × Nat}, q ∈ dueL qs n → q.1 = ptr qs q.2 ∧ 1 ≤ q.2 ∧ q.2 ≤ n ∧ 1 < q.1.length
  | 0, _, h => nomatch h
  | n + 1, q, h => by
    rcases List.mem_append.mp h with h | h
    · obtain ⟨a, b, c, d⟩ := dueL_mem h
      exact ⟨a, b, by omega, d⟩
    · split at h
      · rename_i hc
        rw [List.mem_singleton.mp h]
        exact ⟨rfl, by show 1 ≤ n + 1; omega, Nat.le_refl _, hc⟩
      · cases h
theorem mem_dueL {qs : List Pc3} {c : Nat} (h1 : 1 ≤ c) (hl : 1 < (ptr qs c).length) : ∀ {n : Nat}, c ≤ n → (ptr qs c, c) ∈ dueL qs n
  | 0, h => by omega
  | n + 1, h => by
    show _ ∈ dueL qs n ++ _
    by_cases e : c = n + 1
    · subst e
      rw [if_pos hl]
      exact List.mem_append_right _ (List.mem_singleton.mpr rfl)
    · exact List.mem_append_left _ (mem_dueL h1 hl (by omega))
theorem dueL_rise (qs : List Pc3) : ∀ n : Nat, (dueL qs n).Pairwise fun p q => p.2 < q.2
  | 0 => .nil
  | n + 1 => by
    refine List.pairwise_append.mpr ⟨dueL_rise qs n, ?_, fun p hp q hq => ?_⟩
    · split
      · exact List.pairwise_singleton _ _
      · exact .nil
    · split at hq
      · rw [List.mem_singleton.mp hq]
        have := (dueL_mem hp).2.2.1
        show p.2 < n + 1
        omega
      · cases hq
/-- all pieces, grouped -/
def allP (qs : List Pc3) : Nat → List (List Int)
  | 0 => []
  | n + 1 => allP qs n ++ grp qs (n + 1)
theorem allP_mem {qs : List Pc3} : ∀ {n : Nat} {p : List Int}, p ∈ allP qs n → ∃ c, c ≤ n ∧ p ∈ grp qs c
  | n + 1, p, h => by
    rcases List.mem_append.mp h with h | h
    · obtain ⟨c, h1, h2⟩ := allP_mem h
      exact ⟨c, by omega, h2⟩
    · exact ⟨n + 1, Nat.le_refl _, h⟩
theorem pc_one {qs : List Pc3} (hn : (pcr qs).Nodup) {p q : Pc3} (hp : p ∈ qs) (hq : q ∈ qs) (e : p.2.1 = q.2.1) : p = q := by
  obtain ⟨i, hi, rfl⟩ := List.getElem_of_mem hp
  obtain ⟨j, hj, rfl⟩ := List.getElem_of_mem hq
  have := (List.nodup_iff_pairwise_ne.mp hn)
  have hw := List.pairwise_iff_getElem.mp this
  have : i = j := by
    unfold pcr at hw
    rcases Nat.lt_trichotomy i j with h1 | h1 | h1
    · have := hw i j (by simpa using hi) (by simpa using hj) h1
      simp at this
      exact absurd e this
    · exact h1
    · have := hw j i (by simpa using hj) (by simpa using hi) h1
      simp at this
      exact absurd e.symm this
  subst this; rfl
theorem grp_nodup {qs : List Pc3} (hn : (pcr qs).Nodup) (c : Nat) : (grp qs c).Nodup := by
  unfold grp
  exact List.Nodup.sublist (List.Sublist.map _ (List.filter_sublist)) hn
theorem allP_nodup {qs : List Pc3} (hn : (pcr qs).Nodup) : ∀ n : Nat, (allP qs n).Nodup
  | 0 => .nil
  | n + 1 => by
    refine List.nodup_append.mpr ⟨allP_nodup hn n, grp_nodup hn _, fun a ha b hb e => ?_⟩
    obtain ⟨c, h1, h2⟩ := allP_mem ha
    obtain ⟨q, hq, e1, e2⟩ := grp_mem h2
    obtain ⟨q', hq', e3, e4⟩ := grp_mem hb
    have := pc_one hn hq hq' (by rw [e1, e3, e])
    rw [this] at e2
    omega
theorem rad_dueL {qs : List Pc3} (h : ∀ q ∈ qs, Lin q.2.1 ∧ BdL 40 q.2.1) (hl : qs.length ≤ 5) : ∀ n : Nat, radS (dueL qs n) = prodL (allP qs n)
  | 0 => rfl
  | n + 1 => by
    have raA : ∀ A B : List (List Int × Nat), radS (A ++ B) = radS A * radS B := by
      intro A
      induction A with
      | nil => intro B; show radS B = 1 * radS B; grind
      | cons a r ih =>
        intro B
        show S a.1 * radS (r ++ B) = S a.1 * radS r * radS B
        rw [ih]; grind
    obtain ⟨s1, s2, _, s4⟩ := ptr_facts h hl (n + 1)
    show radS (dueL qs n ++ _) = prodL (allP qs n ++ grp qs (n + 1))
    rw [raA, prodL_app, rad_dueL h hl n]
    split
    · show _ * (S (ptr qs (n + 1)) * 1) = _
      rw [s4]; grind
    · rename_i hc
      have : grp qs (n + 1) = [] := List.length_eq_zero_iff.mp (by omega)
      rw [this]; rfl
theorem dueL_lp {qs : List Pc3} (h : PcB qs) : Lp' (dueL qs 12) 13 := by
  have hh : ∀ q ∈ qs, Lin q.2.1 ∧ BdL 40 q.2.1 := fun q hq => ⟨(h.all q hq).1, (h.all q hq).2.1⟩
  refine ⟨⟨fun q hq => ?_, dueL_rise qs 12⟩, ?_⟩
  · obtain ⟨a, b, c, d⟩ := dueL_mem hq
    refine ⟨by rw [a]; exact (ptr_facts hh h.len q.2).1, d, b, by omega⟩
  · rw [rad_dueL hh h.len 12]
    refine nsq_prodL (fun p hp => ?_) (allP_nodup h.nd 12)
    obtain ⟨c, _, h2⟩ := allP_mem hp
    obtain ⟨q, hq, e, _⟩ := grp_mem h2
    rw [← e]; exact (hh q hq).1
theorem prodS_lin {qs : List Pc3} (h : ∀ q ∈ qs, Lin q.2.1 ∧ BdL 40 q.2.1) (hl : qs.length ≤ 5) : ∀ n : Nat, ∃ l : List (List Int), (∀ q ∈ l, Lin q) ∧ prodS (dueL qs n) = prodL l
  | 0 => ⟨[], fun q hq => (nomatch hq), rfl⟩
  | n + 1 => by
    obtain ⟨l, l1, l2⟩ := prodS_lin h hl n
    obtain ⟨_, _, _, s4⟩ := ptr_facts h hl (n + 1)
    have pows : ∀ k : Nat, ∃ m : List (List Int), (∀ q ∈ m, Lin q) ∧ S (ptr qs (n + 1)) ^ k = prodL m := fun k => by
      induction k with
      | zero => exact ⟨[], fun q hq => (nomatch hq), rfl⟩
      | succ k ih =>
        obtain ⟨m, m1, m2⟩ := ih
        refine ⟨m ++ grp qs (n + 1), fun q hq => ?_, by rw [ser_pow_succ, m2, s4, prodL_app]⟩
        rcases List.mem_append.mp hq with hq | hq
        · exact m1 q hq
        · obtain ⟨q', hq', e, _⟩ := grp_mem hq
          rw [← e]; exact (h q' hq').1
    obtain ⟨m, m1, m2⟩ := pows (n + 1)
    refine ⟨l ++ m, fun q hq => ?_, by rw [prodS_dueL h hl, l2, m2, prodL_app]⟩
    rcases List.mem_append.mp hq with hq | hq
    · exact l1 q hq
    · exact m1 q hq
/-- a number times a simple row: its content and what is left -/
theorem num_row {row D : List Int} {num : Int} (ht : Tr row) (hn : num ≠ 0) (hD : Smp D) (e : S row = C num * S D) : row ≠ [] ∧ sgc row = num ∧ simp' row = D := by
  have hne : row ≠ [] := fun z => by
    rw [z, S_nil] at e
    exact ne_mul (FinE.C num) (FinE.S D) (C_ne_zero hn) hD.nz e.symm
  have hW := Smp.simp ht hne
  have e1 := S_simp ht
  have c0 := sgc_ne ht hne
  have e2 : C (sgc row) * S (simp' row) = C num * S D := by rw [e1, e]
  have eD : simp' row = D := by
    refine Smp.eq hW hD ?_ ?_
    · exact PD.out (Fin.S _) hW.prim hn (PD.of (FinE.C (sgc row)) (by rw [← e2, mul_comm']))
    · exact PD.out (Fin.S _) hD.prim c0 (PD.of (FinE.C num) (by rw [e2, mul_comm']))
  refine ⟨hne, ?_, eD⟩
  rw [eD] at e2
  have := cancel_left hD.t hD.ne (FinE.C (sgc row)) (FinE.C num) (by rw [mul_comm', e2, mul_comm'])
  exact C_inj this
end Pa

namespace Pa
open PySem PySem.Spec PyProof.Rows L2

/-! ### // by divisors of any size -/
def CDivP (i j : Int) : Prop := j ≠ 0
/-- what the division of great numbers asks of the context -/
structure Big (X : Cx) : Prop where
  seer : X.base.NoSeer
  room : X.A.depth + 100 < recursionLimit
  top : ∃ (e : Env) (l : List Env), X.stack = e :: l ∧ e.scope.isGenerator = false ∧ e.scope.isCoroutine = false ∧ e.builtins = builtinsNs ∧ e.globals = mainGlobals
theorem Big.of {X : Cx} {k : Nat} (hs : X.base.NoSeer) (hr : Room k X.A) (hk : 32 ≤ k) (ht : ∃ (e : Env) (l : List Env), X.stack = e :: l ∧ e.scope.isGenerator = false ∧ e.scope.isCoroutine = false ∧ e.builtins = builtinsNs ∧ e.globals = mainGlobals) : Big X :=
  ⟨hs, by have := hr.dp; omega, ht⟩
theorem op_fdivP {X : Cx} (hB : Big X) (ht : X.prog.given.tree = none) : OpR X (binaryOp .FloorDiv) (rI CDivP fun i j => .int (i.fdiv j)) := by
  intro pins s σ H x y v u Q I rx ry h
  obtain ⟨i, j, e1, e2, hc, q⟩ := h
  subst e1 e2
  obtain ⟨t, e3⟩ := rx
  obtain ⟨t', e4⟩ := ry
  subst e3 e4
  obtain ⟨e, l, hst, h1, h2, h3, h4⟩ := hB.top
  have hfr : X.A.frames = some (e :: l) := by rw [I.ok.frames, hst]
  have hpr : PylongRoom (model X.prog X.w) X.A s := PylongRoom.of I.nolimit hB.room (SeerAt.of (hB.seer.keeps I.bk) ht hfr h1 h2 h3 h4)
  exact floordiv_int (prog := X.prog) (w := X.w) hc ⟨.int (i.fdiv j), H, I.tok _, ⟨_, rfl⟩, q⟩ (.inr hpr)
end Pa
namespace Pa
open PySem PySem.Spec PyProof.Rows L2
/-! ### the law's call, the base heap known to have no seer -/
section
variable {P : Program} {w : World} {K : PySem.W.Frag} {mg mb : Str → Option Value} {lev : Nat} {fa a : Addr} {fd : FuncData} {x : Str} {sp : Sp} {s₁ : Shared} {vs : List Value} {ns : List Int}
abbrev LawEnds (h : Heap) (s₁ : Shared) : Result → Shared → Prop := fun r s' => r = .ok (.ret (.bool true)) ∧ OldK h s'.heap ∧ s'.os = s₁.os ∧ AllBare s'.gens
/-- the script's list, if it is hidden from the base -/
structure Hid (K : PySem.W.Frag) (P : Program) (w : World) (s₁ : Shared) (a : Addr) (ns : List Int) (H : Hp) : Prop where
  only : Only H
  seq : SqL K H a (ns.map V.int)
  ok : HOk P w H s₁.heap
  at_a : ∀ b, H b ≠ none → b = a
  kn : H a ≠ none → K.lookup a = none
theorem Hid.none_or (h : Hid K P w s₁ a ns H) (b : Addr) : H b = none ∨ (b = a ∧ K.lookup b = none) := by
  by_cases z : H b = none
  · exact .inl z
  · have e := h.at_a b z
    subst e
    exact .inr ⟨rfl, h.kn z⟩
theorem Hid.call {H : Hp} (hd : Hid K P w s₁ a ns H) (inK : K.In s₁.heap) (gl : s₁.heap.Ns mainGlobals mg) (bn : s₁.heap.Ns builtinsNs mb) (bb : ∀ x : Str, x ≠ "__name__" → mb x = bootBuiltins x) (nl : s₁.heap.NoLimit) (sr : s₁.heap.NoSeer) (ng : s₁.gens = #[])
    (lst : s₁.heap.get? a = some { cls := .type "list", data := .seq vs.toArray }) (rm : Room lev callerA)
    (F : ∀ base : Heap, K.In base → base.Ns mainGlobals mg → base.NoSeer → FnOk P w K mg base CX0 lev fa fd [x] sp) (bind : ∀ (s : Shared) (u : Value), BindsTo s fd ⟨[u], []⟩ [(x, u)])
    (hsp : ∀ H : Hp, Only H → SqL K H a (ns.map V.int) → sp [.ref a] H (fun v _ => v = .bl true) fun _ _ _ => False) :
    codeAny (model P w) callerA (.call (.ref fa) ⟨[.ref a], []⟩) (LawEnds s₁.heap s₁) s₁ := by
  -- an object other than the script's list stands in the base
  have stay : ∀ {b : Addr} {o : Obj}, s₁.heap.get? b = some o → (∀ l, o ≠ { cls := .type "list", data := .seq l }) → (hidT s₁.heap H).get? b = some o := fun {b o} g nol => by
    rcases hd.none_or b with z | ⟨z, _⟩
    · exact hidT_get g z
    · rw [z, lst] at g
      exact absurd (Option.some.inj g).symm (nol _)
  have dic : ∀ {b : Addr} {m : Str → Option Value}, s₁.heap.Ns b m → (hidT s₁.heap H).Ns b m := fun {b m} y => by
    obtain ⟨o, es, ep, g, dt, rest⟩ := y
    refine ⟨o, es, ep, stay g fun l z => ?_, dt, rest⟩
    rw [z] at dt
    exact Data.noConfusion dt
  have frag : K.In (hidT s₁.heap H) := fun b o lk => by
    rcases hd.none_or b with z | ⟨_, z⟩
    · exact hidT_get (inK b o lk) z
    · rw [z] at lk; exact nomatch lk
  have seer : (hidT s₁.heap H).NoSeer := by
    obtain ⟨⟨mc, c1, c2, c3⟩, ⟨mm, m1, m2⟩, ⟨mi, i1, i2⟩, ⟨mn, bm, ob, n1, n2, n3, n4, n5⟩⟩ := sr
    refine ⟨⟨mc, dic c1, c2, c3⟩, ⟨mm, dic m1, m2⟩, ⟨mi, dic i1, i2⟩, ⟨mn, bm, ob, dic n1, n2, stay n3 fun l z => ?_, n4, n5⟩⟩
    rw [z] at n4
    have n4' : Value.type "list" = Value.type "module" := n4
    revert n4'
    decide
  obtain ⟨mr, r1, r2⟩ := nl
  have env0 : Env0 P w K mg (hidT s₁.heap H) callerA [] s₁ H :=
    ⟨rfl, ⟨frag, dic gl, ⟨mb, dic bn, bb⟩, ⟨mr, dic r1, r2⟩⟩, fun _ _ g => of_hidT g, Nat.le_of_eq (hidT_size s₁.heap H), trivial, fun _ m => absurd m List.not_mem_nil, hd.ok, .of_eq ng⟩
  have run := (F _ frag (dic gl) seer).run callerA [] s₁ H ⟨[.ref a], []⟩ [.ref a] [.ref a] _ _ rm env0 (bind s₁ (.ref a)) (.cons rfl .nil) (hsp H hd.only hd.seq)
  refine codeAny_mono run fun r s' end' => ?_
  match r, end' with
  | .ok (.ret u), end' =>
    obtain ⟨v, H', so, br, un, ok', rel, val⟩ := end'
    have val' : v = .bl true := val
    subst val'
    have eu : u = Value.bool true := rel
    subst eu
    refine ⟨rfl, OldK.of_keep fun b o g => ?_, so, br⟩
    cases hb : H b with
    | none => exact un.keep b o g hb (fun m => absurd m List.not_mem_nil) (fun m => absurd m List.not_mem_nil)
    | some t =>
      rcases hd.only b with z | ⟨ob, ys, z⟩
      · rw [hb] at z; exact nomatch z
      · have f1 := (hd.ok b _ z).1
        have f2 := (ok' b _ (un.frzs b ob _ z)).1
        rw [g] at f1
        rw [Option.some.inj f1]; exact f2
  | .ok .next, end' => exact end'.elim
  | .ok .brk, end' => exact end'.elim
  | .ok .cont, end' => exact end'.elim
  | .error e, end' => exact end'.elim
theorem law_callS (inK : K.In s₁.heap) (gl : s₁.heap.Ns mainGlobals mg) (bn : s₁.heap.Ns builtinsNs mb) (bb : ∀ x : Str, x ≠ "__name__" → mb x = bootBuiltins x) (nl : s₁.heap.NoLimit) (sr : s₁.heap.NoSeer) (ng : s₁.gens = #[])
    (lst : s₁.heap.get? a = some { cls := .type "list", data := .seq vs.toArray }) (wholes : IntsAre vs ns) (sz : ns.length ≤ sizeLine) (rm : Room lev callerA)
    (F : ∀ base : Heap, K.In base → base.Ns mainGlobals mg → base.NoSeer → FnOk P w K mg base CX0 lev fa fd [x] sp) (bind : ∀ (s : Shared) (u : Value), BindsTo s fd ⟨[u], []⟩ [(x, u)])
    (hsp : ∀ H : Hp, Only H → SqL K H a (ns.map V.int) → sp [.ref a] H (fun v _ => v = .bl true) fun _ _ _ => False) :
    codeAny (model P w) callerA (.call (.ref fa) ⟨[.ref a], []⟩) (LawEnds s₁.heap s₁) s₁ := by
  have vals := vals_ints wholes
  have size : vs.length = ns.length := wholes.length
  by_cases own : K.lookup a = none
  · -- the script is the call's own: hidden
    let HH : Hp := fun b => if b = a then some (.frz { cls := .type "list", data := .seq vs.toArray } (.lst (ns.map V.int))) else none
    have here : HH a = some (.frz { cls := .type "list", data := .seq vs.toArray } (.lst (ns.map V.int))) := if_pos rfl
    have away : ∀ b, b ≠ a → HH b = none := fun b hb => if_neg hb
    have hid : Hid K P w s₁ a ns HH := by
      refine ⟨fun b => ?_, .inl (.inr ⟨_, here⟩), fun b u z => ?_, fun b z => Classical.byContradiction fun hb => z (away b hb), fun _ => own⟩
      · by_cases hb : b = a
        · rw [hb]; exact .inr ⟨_, _, here⟩
        · exact .inl (away b hb)
      · by_cases hb : b = a
        · rw [hb, here] at z
          have z' := Option.some.inj z
          subst z'
          rw [hb]
          exact ⟨lst, by rw [List.length_map]; exact sz, vs, _, vals, lst⟩
        · rw [away b hb] at z; exact nomatch z
    exact hid.call inK gl bn bb nl sr ng lst rm F bind hsp
  · -- the script is one of the written objects
    obtain ⟨o, lk⟩ : ∃ o, K.lookup a = some o := by
      cases e : K.lookup a with
      | none => exact absurd e own
      | some o => exact ⟨o, rfl⟩
    have same := inK a o lk
    rw [lst] at same
    cases same
    have hid : Hid K P w s₁ a ns fun _ => none := by
      refine ⟨fun b => .inl rfl, .inr ⟨_, vs.toArray, _, lk, rfl, rfl, rfl, by rw [List.size_toArray, size]; exact sz, by simpa using vals⟩, fun b u z => ?_, fun b z => absurd rfl z, fun z => absurd rfl z⟩
      have z' : (none : Option HO) = some u := z
      exact nomatch z'
    exact hid.call inK gl bn bb nl sr ng lst rm F bind hsp
end
theorem walk_ofS {l : PySem.W.OpenLaw} {n k : Nat} {q : Program} {loose : List Str} {XP : (Str → Option Value) → Heap → Prop} {YP : World → Heap → Prop} {d : DefRec} {K : Params → PySem.W.Frag} {sp : World → Sp} {x : Str}
    (most : l.most = some n) (small : n ≤ sizeLine) (plain : d.params.defaults = []) (rm : Room k callerA) (imp : importsNone q = true)
    (part : ∀ (w : World) (h : Heap), YP w h → (K w.params).In h)
    (F : ∀ (w : World) (mg : Str → Option Value) (fa : Addr) (h : Heap), (K w.params).In h → h.Ns mainGlobals mg → mg d.name = some (.ref fa) →
      ∃ fd : FuncData, (∀ (s : Shared) (u : Value), BindsTo s fd ⟨[u], []⟩ [(x, u)]) ∧ ∀ base : Heap, (K w.params).In base → base.Ns mainGlobals mg → base.NoSeer → FnOk l.prog w (K w.params) mg base CX0 k fa fd [x] (sp w))
    (hsp : ∀ (w : World) (H : Hp) (a : Addr) (ns : List Int), ns.length ≤ n → Only H → SqL (K w.params) H a (ns.map V.int) → sp w [.ref a] H (fun v _ => v = .bl true) fun _ _ _ => False) :
    PySem.W.WalkO q loose XP YP l.row.toRowW d [] (fun f vs => PySem.call f vs) := by
  refine Att.attach_call most plain fun w s₀ s₁ mg mb fa o pm cd doc a vs ns G Y g1 g2 g3 g4 g5 wholes len ng => ?_
  have inK := part w _ Y
  obtain ⟨fd, bind, FF⟩ := F w mg fa _ inK G.T.g g4
  exact law_callS inK G.T.g G.T.b G.T.builtins G.T.nolimit (G.T.seer imp) ng g5 wholes (Nat.le_trans len small) rm FF bind fun H only seq => hsp w H a ns len only seq
end Pa
namespace Pa
open PySem PySem.Spec PyProof.Rows L2
/-! ### the order of what is owned does not matter -/
theorem Kn.perm {H0 : Hp} {fs fs' : Fs} (p : fs.Perm fs') : ∀ {H : Hp}, Kn H0 fs H → Kn H0 fs' H := by
  induction p with
  | nil => exact fun k => k
  | cons x _ ih => exact fun ⟨e, H1, s, n, k⟩ => ⟨e, H1, s, n, ih k⟩
  | swap x y l => exact fun k => k.swap
  | trans _ _ ih1 ih2 => exact fun k => ih2 (ih1 k)
theorem NR.perm {Q : VK} {v : V} {H0 : Hp} {fs fs' : Fs} (p : fs.Perm fs') (h : NR Q v H0 fs') : NR Q v H0 fs := fun H k => h H (k.perm p)
theorem N.perm {e : St → Hp → Prop} {σ : St} {H0 : Hp} {fs fs' : Fs} (p : fs.Perm fs') (h : N e σ H0 fs') : N e σ H0 fs := fun H k => h H (k.perm p)
end Pa
namespace Pa
open PySem PySem.Spec PyProof.Rows L2
local macro_rules | `(tactic| walk_at "mem") => `(tactic| first | exact .head _ | (refine .tail _ ?_; walk_at "mem"))
local macro_rules | `(tactic| walk_at "rx") => `(tactic| first
  | with_reducible exact Rx.arg (by assumption) | exact Rx.own (by walk_at "mem") | exact Rx.arg (by assumption))
local macro_rules | `(tactic| walk_at "rl") => `(tactic| first
  | with_reducible exact Rl.x (Rx.arg (by assumption)) | exact Rl.x (Rx.own (by walk_at "mem")) | exact Rl.sq (by assumption) | exact Rl.x (Rx.arg (by assumption)))
local macro_rules | `(tactic| walk_at "rt") => `(tactic| first
  | with_reducible exact Rt.x (Rx.arg (by assumption)) | exact Rt.x (Rx.own (by walk_at "mem")) | exact Rt.x (Rx.arg (by assumption)))
local macro_rules | `(tactic| walk_at "sub") => `(tactic| (repeat (first | exact .slnil | exact .refl _ | apply List.Sublist.cons_cons | apply List.Sublist.cons)))
local macro_rules | `(tactic| walk_at "ok") => `(tactic| first
  | assumption | decide | omega | exact mulL (by omega) (by omega) | exact mulR (by omega) (by omega) | (refine ⟨?_, ?_⟩ <;> omega))
local macro_rules | `(tactic| walk_at "w1") => `(tactic| first
  | ((with_reducible refine' W.var ?h ?_); (case h => rfl))
  | with_reducible refine W.c ?_
  | with_reducible refine W.op ?_
  | with_reducible refine RW.i0 ?_
  | ((with_reducible refine' RW.i1 ?h ?_); (case h => walk_at "ok"))
  | with_reducible refine RW.eqI ?_
  | with_reducible refine RW.neI ?_
  | ((with_reducible refine' RW.eqZ ?h ?h2 ?_); (case h => walk_at "rl"); (case h2 => walk_at "rl"))
  | ((with_reducible refine' RW.neZ ?h ?h2 ?_); (case h => walk_at "rl"); (case h2 => walk_at "rl"))
  | with_reducible refine RW.eqL ?_
  | with_reducible refine RW.neL ?_
  | with_reducible refine RW.inL ?_
  | with_reducible refine RW.notInL ?_
  | with_reducible refine RW.eqS ?_
  | with_reducible refine RW.isNoR ?_
  | with_reducible refine W.m1 ?_
  | (with_reducible refine ⟨⟨_, rfl⟩, ?_⟩)
  | with_reducible refine RW.isNoN ?_
  | with_reducible refine RW.notNoR ?_
  | with_reducible refine RW.notNoN ?_
  | with_reducible refine RW.neS ?_
  | ((with_reducible refine' RW.ixZ ?h ?h2 ?_); (case h => walk_at "rl"); (case h2 => walk_at "ok"))
  | ((with_reducible refine' RW.ixL ?h ?h2 ?_); (case h => walk_at "rl"); (case h2 => rfl))
  | ((with_reducible refine' RW.ixT ?h ?h2 ?_); (case h => walk_at "rt"); (case h2 => rfl))
  | with_reducible refine W.un ?_
  | with_reducible refine RU.int ?_
  | with_reducible refine WA.nil ?_
  | with_reducible refine WA.cons ?_
  | with_reducible refine W.cb ?_
  | with_reducible refine W.call ?_
  | ((with_reducible refine' RC.lenZ ?h ?_); (case h => walk_at "rl"))
  | ((with_reducible refine' RC.len ?h ?_); (case h => walk_at "rl"))
  | ((with_reducible refine' RC.lenT ?h ?_); (case h => walk_at "rt"))
  | ((with_reducible refine' RC.lenX ?h ?_); (case h => walk_at "ok"))
  | ((with_reducible refine' RC.lenS ?h ?_); (case h => walk_at "ok"))
  | with_reducible refine RC.abs ?_
  | with_reducible refine RC.max2 ?_
  | with_reducible refine RC.min2 ?_
  | ((with_reducible refine' RC.listL ?h ?_); (case h => walk_at "rl"))
  | (with_reducible refine W.lst0 ?_)
  | (with_reducible refine W.lst1 ?_)
  | (with_reducible refine W.lst ?_)
  | (with_reducible refine W.tup ?_)
  | (with_reducible refine W.sl ?_)
  | (with_reducible refine WO.no ?_)
  | (with_reducible refine WO.part ?_)
  | ((with_reducible refine' RS.take ?h ?h2 ?_); (case h => walk_at "rl"); (case h2 => walk_at "ok"))
  | ((with_reducible refine' RS.drop ?h ?h2 ?_); (case h => walk_at "rl"); (case h2 => walk_at "ok"))
  | with_reducible refine RC.isiII ?_
  | with_reducible refine RC.isiIB ?_
  | ((with_reducible refine' RC.isiLL ?h ?_); (case h => walk_at "rx"))
  | ((with_reducible refine' RC.isiTT ?h ?_); (case h => walk_at "rx"))
  | with_reducible refine WT.test ?_
  | with_reducible refine WT.b ?_
  | with_reducible refine WT.not ?_
  | with_reducible refine WT.and ?_
  | with_reducible refine WT.or ?_
  | with_reducible refine W.andV ?_
  | with_reducible refine W.orV ?_
  | with_reducible refine W.notV ?_
  | with_reducible refine W.chain ?_
  | with_reducible refine S.seq ?_
  | ((with_reducible refine Un.nx ?_); (with_reducible refine UU.zero ?_))
  | ((with_reducible refine Un.nx ?_); (with_reducible refine UU.succ ?_))
  | with_reducible refine UU.succ ?_
  | with_reducible refine UU.zero ?_
  | with_reducible refine S.asg ?_
  | with_reducible refine S.dropS ?_
  | with_reducible refine S.ret ?_
  | with_reducible refine S.if_ ?_
  | with_reducible refine S.next ?_
  | (with_reducible refine ⟨_, rfl, ?_⟩)
  | refine And.intro (fun _ => ?_) (fun h => Bool.noConfusion h)
  | refine And.intro (fun h => Bool.noConfusion h) (fun _ => ?_))
local macro_rules | `(tactic| walk_at "v1") => `(tactic| first
  | ((with_reducible refine' W.var ?h ?_); (case h => rfl))
  | with_reducible refine W.c ?_
  | with_reducible refine W.op ?_
  | with_reducible refine RW.i0 ?_
  | ((with_reducible refine' RW.i1 ?h ?_); (case h => walk_at "ok"))
  | with_reducible refine RW.eqI ?_
  | with_reducible refine RW.neI ?_
  | ((with_reducible refine' RW.eqZ ?h ?h2 ?_); (case h => walk_at "rl"); (case h2 => walk_at "rl"))
  | ((with_reducible refine' RW.neZ ?h ?h2 ?_); (case h => walk_at "rl"); (case h2 => walk_at "rl"))
  | with_reducible refine RW.eqL ?_
  | with_reducible refine RW.neL ?_
  | with_reducible refine RW.inL ?_
  | with_reducible refine RW.notInL ?_
  | with_reducible refine RW.eqS ?_
  | with_reducible refine RW.isNoR ?_
  | with_reducible refine W.m1 ?_
  | (with_reducible refine ⟨⟨_, rfl⟩, ?_⟩)
  | with_reducible refine RW.isNoN ?_
  | with_reducible refine RW.notNoR ?_
  | with_reducible refine RW.notNoN ?_
  | with_reducible refine RW.neS ?_
  | ((with_reducible refine' RW.ixZ ?h ?h2 ?_); (case h => walk_at "rl"); (case h2 => walk_at "ok"))
  | ((with_reducible refine' RW.ixL ?h ?h2 ?_); (case h => walk_at "rl"); (case h2 => rfl))
  | ((with_reducible refine' RW.ixT ?h ?h2 ?_); (case h => walk_at "rt"); (case h2 => rfl))
  | with_reducible refine W.un ?_
  | with_reducible refine RU.int ?_
  | with_reducible refine WA.nil ?_
  | with_reducible refine WA.cons ?_
  | with_reducible refine W.cb ?_
  | with_reducible refine W.call ?_
  | ((with_reducible refine' RC.lenZ ?h ?_); (case h => walk_at "rl"))
  | ((with_reducible refine' RC.len ?h ?_); (case h => walk_at "rl"))
  | ((with_reducible refine' RC.lenT ?h ?_); (case h => walk_at "rt"))
  | ((with_reducible refine' RC.lenX ?h ?_); (case h => walk_at "ok"))
  | ((with_reducible refine' RC.lenS ?h ?_); (case h => walk_at "ok"))
  | with_reducible refine RC.abs ?_
  | with_reducible refine RC.max2 ?_
  | with_reducible refine RC.min2 ?_
  | ((with_reducible refine' RC.listL ?h ?_); (case h => walk_at "rl"))
  | (with_reducible refine W.lst0 ?_)
  | (with_reducible refine W.lst1 ?_)
  | (with_reducible refine W.lst ?_)
  | (with_reducible refine W.tup ?_)
  | (with_reducible refine W.sl ?_)
  | (with_reducible refine WO.no ?_)
  | (with_reducible refine WO.part ?_)
  | ((with_reducible refine' RS.take ?h ?h2 ?_); (case h => walk_at "rl"); (case h2 => walk_at "ok"))
  | ((with_reducible refine' RS.drop ?h ?h2 ?_); (case h => walk_at "rl"); (case h2 => walk_at "ok"))
  | with_reducible refine RC.isiII ?_
  | with_reducible refine RC.isiIB ?_
  | ((with_reducible refine' RC.isiLL ?h ?_); (case h => walk_at "rx"))
  | ((with_reducible refine' RC.isiTT ?h ?_); (case h => walk_at "rx"))
  | with_reducible refine WT.test ?_
  | with_reducible refine WT.b ?_
  | with_reducible refine WT.not ?_
  | with_reducible refine WT.and ?_
  | with_reducible refine WT.or ?_
  | with_reducible refine W.andV ?_
  | with_reducible refine W.orV ?_
  | with_reducible refine W.notV ?_
  | with_reducible refine W.chain ?_
  | with_reducible refine S.seq ?_
  | ((with_reducible refine Un.nx ?_); (with_reducible refine UU.zero ?_))
  | ((with_reducible refine Un.nx ?_); (with_reducible refine UU.succ ?_))
  | with_reducible refine UU.succ ?_
  | with_reducible refine UU.zero ?_
  | with_reducible refine S.asg ?_
  | with_reducible refine S.dropS ?_
  | with_reducible refine S.ret ?_
  | with_reducible refine S.next ?_
  | (with_reducible refine ⟨_, rfl, ?_⟩)
  | refine And.intro (fun _ => ?_) (fun h => Bool.noConfusion h)
  | refine And.intro (fun h => Bool.noConfusion h) (fun _ => ?_))
local macro_rules | `(tactic| walk_at "w") => `(tactic| (repeat walk_at "w1"))
local macro_rules | `(tactic| walk_at "w0") => `(tactic| (repeat walk_at "v1"))
local macro_rules | `(tactic| walk_at "if") => `(tactic| (refine And.intro (fun hb => ?_) (fun hb => ?_) <;> (try simp only [decide_eq_true_eq, decide_eq_false_iff_not, Bool.not_eq_true', Bool.not_eq_false', Bool.false_eq_true, Bool.true_eq_false, Bool.not_true, Bool.not_false, eq_self, not_true_eq_false, not_false_eq_true, ne_eq] at hb)))
local macro_rules | `(tactic| walk_at "fin") => `(tactic| first
  | exact NR.sub (by assumption) (by walk_at "sub")
  | exact NR.sub (by first | assumption | (apply_assumption)) (by walk_at "sub"))
local macro_rules | `(tactic| walk_at "d") => `(tactic| (try dsimp only [List.set, wipe, List.map]))
local macro_rules | `(tactic| walk_at "lp") => `(tactic| refine Lp.nx ?_)
local macro_rules | `(tactic| walk_at "app") => `(tactic| ((with_reducible refine S.app ?_); (walk_at "w0"); (first | refine ⟨⟨_, by walk_at "rl"⟩, ?_⟩ | refine ⟨_, rfl, ⟨_, by walk_at "rl"⟩, ?_⟩); (walk_at "w0"); (first | refine ⟨_, 0, rfl, ?_, ?_⟩ | refine ⟨_, 1, rfl, ?_, ?_⟩ | refine ⟨_, 2, rfl, ?_, ?_⟩ | refine ⟨_, 3, rfl, ?_, ?_⟩ | refine ⟨_, 4, rfl, ?_, ?_⟩ | refine ⟨_, 5, rfl, ?_, ?_⟩ | refine ⟨_, 6, rfl, ?_, ?_⟩ | refine ⟨_, 7, rfl, ?_, ?_⟩ | refine ⟨_, 8, rfl, ?_, ?_⟩ | refine ⟨_, 9, rfl, ?_, ?_⟩ | refine ⟨_, 10, rfl, ?_, ?_⟩ | refine ⟨_, 11, rfl, ?_, ?_⟩ | refine ⟨_, 12, rfl, ?_, ?_⟩ | refine ⟨_, 13, rfl, ?_, ?_⟩ | refine ⟨_, 14, rfl, ?_, ?_⟩ | refine ⟨_, 15, rfl, ?_, ?_⟩ | refine ⟨_, 16, rfl, ?_, ?_⟩ | refine ⟨_, 17, rfl, ?_, ?_⟩ | refine ⟨_, 18, rfl, ?_, ?_⟩ | refine ⟨_, 19, rfl, ?_, ?_⟩ | refine ⟨_, 20, rfl, ?_, ?_⟩ | refine ⟨_, 21, rfl, ?_, ?_⟩ | refine ⟨_, 22, rfl, ?_, ?_⟩ | refine ⟨_, 23, rfl, ?_, ?_⟩)))
local macro_rules | `(tactic| walk_at "set1") => `(tactic| first | refine ⟨_, _, _, 0, rfl, rfl, rfl, ?_, ?_⟩ | refine ⟨_, _, _, 1, rfl, rfl, rfl, ?_, ?_⟩ | refine ⟨_, _, _, 2, rfl, rfl, rfl, ?_, ?_⟩ | refine ⟨_, _, _, 3, rfl, rfl, rfl, ?_, ?_⟩ | refine ⟨_, _, _, 4, rfl, rfl, rfl, ?_, ?_⟩ | refine ⟨_, _, _, 5, rfl, rfl, rfl, ?_, ?_⟩ | refine ⟨_, _, _, 6, rfl, rfl, rfl, ?_, ?_⟩ | refine ⟨_, _, _, 7, rfl, rfl, rfl, ?_, ?_⟩ | refine ⟨_, _, _, 8, rfl, rfl, rfl, ?_, ?_⟩ | refine ⟨_, _, _, 9, rfl, rfl, rfl, ?_, ?_⟩ | refine ⟨_, _, _, 10, rfl, rfl, rfl, ?_, ?_⟩ | refine ⟨_, _, _, 11, rfl, rfl, rfl, ?_, ?_⟩ | refine ⟨_, _, _, 12, rfl, rfl, rfl, ?_, ?_⟩ | refine ⟨_, _, _, 13, rfl, rfl, rfl, ?_, ?_⟩ | refine ⟨_, _, _, 14, rfl, rfl, rfl, ?_, ?_⟩ | refine ⟨_, _, _, 15, rfl, rfl, rfl, ?_, ?_⟩ | refine ⟨_, _, _, 16, rfl, rfl, rfl, ?_, ?_⟩ | refine ⟨_, _, _, 17, rfl, rfl, rfl, ?_, ?_⟩ | refine ⟨_, _, _, 18, rfl, rfl, rfl, ?_, ?_⟩ | refine ⟨_, _, _, 19, rfl, rfl, rfl, ?_, ?_⟩ | refine ⟨_, _, _, 20, rfl, rfl, rfl, ?_, ?_⟩ | refine ⟨_, _, _, 21, rfl, rfl, rfl, ?_, ?_⟩ | refine ⟨_, _, _, 22, rfl, rfl, rfl, ?_, ?_⟩ | refine ⟨_, _, _, 23, rfl, rfl, rfl, ?_, ?_⟩)
local macro_rules | `(tactic| walk_at "un") => `(tactic| refine Un.nx ?_)
def topS (i : Nat) : Stmt := PySem.Challenge.pw_polyarith_k14_parts_of_pieces.main.body.getD i (.Pass ⟨0, 0, 0, 0⟩)
abbrev s_greatest : Stmt := topS 1
theorem sc_greatest : FnScope ["one", "other", "rest"] ["one", "other"] (defScope s_greatest) := ⟨rfl, rfl, rfl, by decide +kernel, rfl, by decide +kernel, by decide +kernel⟩
abbrev s_content : Stmt := topS 2
theorem sc_content : FnScope ["row", "found", "number"] ["row"] (defScope s_content) := ⟨rfl, rfl, rfl, by decide +kernel, rfl, by decide +kernel, by decide +kernel⟩
abbrev s_signed_content : Stmt := topS 3
theorem sc_signed_content : FnScope ["row"] ["row"] (defScope s_signed_content) := ⟨rfl, rfl, rfl, by decide +kernel, rfl, by decide +kernel, by decide +kernel⟩
abbrev s_simple : Stmt := topS 4
theorem sc_simple : FnScope ["row", "by", "number"] ["row"] (defScope s_simple) := ⟨rfl, rfl, rfl, by decide +kernel, rfl, by decide +kernel, by decide +kernel⟩
abbrev s_trimmed : Stmt := topS 14
theorem sc_trimmed : FnScope ["row", "size"] ["row"] (defScope s_trimmed) := ⟨rfl, rfl, rfl, by decide +kernel, rfl, by decide +kernel, by decide +kernel⟩
abbrev s_made : Stmt := topS 15
theorem sc_made : FnScope ["numbers", "number"] ["numbers"] (defScope s_made) := ⟨rfl, rfl, rfl, by decide +kernel, rfl, by decide +kernel, by decide +kernel⟩
abbrev s_number_at : Stmt := topS 16
theorem sc_number_at : FnScope ["row", "place"] ["row", "place"] (defScope s_number_at) := ⟨rfl, rfl, rfl, by decide +kernel, rfl, by decide +kernel, by decide +kernel⟩
abbrev s_minus : Stmt := topS 17
theorem sc_minus : FnScope ["ones", "others", "size", "k"] ["ones", "others"] (defScope s_minus) := ⟨rfl, rfl, rfl, by decide +kernel, rfl, by decide +kernel, by decide +kernel⟩
abbrev s_scaled : Stmt := topS 18
theorem sc_scaled : FnScope ["row", "many", "number"] ["row", "many"] (defScope s_scaled) := ⟨rfl, rfl, rfl, by decide +kernel, rfl, by decide +kernel, by decide +kernel⟩
abbrev s_times : Stmt := topS 19
theorem sc_times : FnScope ["ones", "others", "found", "j", "k"] ["ones", "others"] (defScope s_times) := ⟨rfl, rfl, rfl, by decide +kernel, rfl, by decide +kernel, by decide +kernel⟩
abbrev s_raised : Stmt := topS 20
theorem sc_raised : FnScope ["row", "many", "found", "k"] ["row", "many"] (defScope s_raised) := ⟨rfl, rfl, rfl, by decide +kernel, rfl, by decide +kernel, by decide +kernel⟩
abbrev s_slope : Stmt := topS 21
theorem sc_slope : FnScope ["row", "k"] ["row"] (defScope s_slope) := ⟨rfl, rfl, rfl, by decide +kernel, rfl, by decide +kernel, by decide +kernel⟩
abbrev s_divided : Stmt := topS 23
theorem sc_divided : FnScope ["row", "by", "many", "found", "rest", "step", "place", "top", "more", "k", "number"] ["row", "by"] (defScope s_divided) := ⟨rfl, rfl, rfl, by decide +kernel, rfl, by decide +kernel, by decide +kernel⟩
abbrev s_quotient : Stmt := topS 24
theorem sc_quotient : FnScope ["row", "by", "told"] ["row", "by"] (defScope s_quotient) := ⟨rfl, rfl, rfl, by decide +kernel, rfl, by decide +kernel, by decide +kernel⟩
abbrev s_shared : Stmt := topS 26
theorem sc_shared : FnScope ["row", "ones", "others", "many", "by", "number"] ["row", "ones", "others", "many"] (defScope s_shared) := ⟨rfl, rfl, rfl, by decide +kernel, rfl, by decide +kernel, by decide +kernel⟩
abbrev s_begun : Stmt := topS 27
theorem sc_begun : FnScope ["row", "first", "by", "sign"] ["row", "first"] (defScope s_begun) := ⟨rfl, rfl, rfl, by decide +kernel, rfl, by decide +kernel, by decide +kernel⟩
abbrev s_behind : Stmt := topS 28
theorem sc_behind : FnScope ["here", "there", "told", "rest", "by", "sign", "up", "down", "ones", "others"] ["here", "there"] (defScope s_behind) := ⟨rfl, rfl, rfl, by decide +kernel, rfl, by decide +kernel, by decide +kernel⟩
abbrev s_meet : Stmt := topS 29
theorem sc_meet : FnScope ["ones", "others", "here", "there", "rest", "found"] ["ones", "others"] (defScope s_meet) := ⟨rfl, rfl, rfl, by decide +kernel, rfl, by decide +kernel, by decide +kernel⟩
abbrev s_parts : Stmt := topS 31
theorem sc_parts : FnScope ["row", "found", "whole", "both", "left", "drift", "many"] ["row"] (defScope s_parts) := ⟨rfl, rfl, rfl, by decide +kernel, rfl, by decide +kernel, by decide +kernel⟩
abbrev s_joined : Stmt := topS 32
theorem sc_joined : FnScope ["number", "pairs", "found", "part", "many"] ["number", "pairs"] (defScope s_joined) := ⟨rfl, rfl, rfl, by decide +kernel, rfl, by decide +kernel, by decide +kernel⟩
abbrev s_no_square : Stmt := topS 33
theorem sc_no_square : FnScope ["row", "both"] ["row"] (defScope s_no_square) := ⟨rfl, rfl, rfl, by decide +kernel, rfl, by decide +kernel, by decide +kernel⟩
abbrev s__law_whole : Stmt := topS 35
theorem sc__law_whole : FnScope ["_law_found"] ["_law_found"] (defScope s__law_whole) := ⟨rfl, rfl, rfl, by decide +kernel, rfl, by decide +kernel, by decide +kernel⟩
abbrev s__law_cell_at : Stmt := topS 36
theorem sc__law_cell_at : FnScope ["_law_script", "_law_k"] ["_law_script", "_law_k"] (defScope s__law_cell_at) := ⟨rfl, rfl, rfl, by decide +kernel, rfl, by decide +kernel, by decide +kernel⟩
abbrev s__law_trim : Stmt := topS 37
theorem sc__law_trim : FnScope ["_law_row_here", "_law_size"] ["_law_row_here"] (defScope s__law_trim) := ⟨rfl, rfl, rfl, by decide +kernel, rfl, by decide +kernel, by decide +kernel⟩
abbrev s__law_same : Stmt := topS 38
theorem sc__law_same : FnScope ["_law_found", "_law_due", "_law_k"] ["_law_found", "_law_due"] (defScope s__law_same) := ⟨rfl, rfl, rfl, by decide +kernel, rfl, by decide +kernel, by decide +kernel⟩
abbrev s__law_times : Stmt := topS 39
theorem sc__law_times : FnScope ["_law_ones", "_law_others", "_law_found", "_law_j", "_law_k"] ["_law_ones", "_law_others"] (defScope s__law_times) := ⟨rfl, rfl, rfl, by decide +kernel, rfl, by decide +kernel, by decide +kernel⟩
abbrev s__law_greatest : Stmt := topS 40
theorem sc__law_greatest : FnScope ["_law_one", "_law_other", "_law_rest"] ["_law_one", "_law_other"] (defScope s__law_greatest) := ⟨rfl, rfl, rfl, by decide +kernel, rfl, by decide +kernel, by decide +kernel⟩
abbrev s__law_plus : Stmt := topS 42
theorem sc__law_plus : FnScope ["_law_ones", "_law_others", "_law_size", "_law_k"] ["_law_ones", "_law_others"] (defScope s__law_plus) := ⟨rfl, rfl, rfl, by decide +kernel, rfl, by decide +kernel, by decide +kernel⟩
abbrev s__law_row : Stmt := topS 43
theorem sc__law_row : FnScope ["_law_found", "_law_number_here"] ["_law_found"] (defScope s__law_row) := ⟨rfl, rfl, rfl, by decide +kernel, rfl, by decide +kernel, by decide +kernel⟩
abbrev s__law_paper : Stmt := topS 44
theorem sc__law_paper : FnScope ["_law_found", "_law_row_here", "_law_rest", "_law_k"] ["_law_found", "_law_row_here"] (defScope s__law_paper) := ⟨rfl, rfl, rfl, by decide +kernel, rfl, by decide +kernel, by decide +kernel⟩
abbrev s__law_piece : Stmt := topS 45
theorem sc__law_piece : FnScope ["_law_cell", "_law_lead", "_law_other", "_law_by"] ["_law_cell"] (defScope s__law_piece) := ⟨rfl, rfl, rfl, by decide +kernel, rfl, by decide +kernel, by decide +kernel⟩
abbrev s__law_pieces : Stmt := topS 46
theorem sc__law_pieces : FnScope ["_law_script", "_law_found", "_law_counts", "_law_power", "_law_k", "_law_piece_here", "_law_cell", "_law_count"] ["_law_script"] (defScope s__law_pieces) := ⟨rfl, rfl, rfl, by decide +kernel, rfl, by decide +kernel, by decide +kernel⟩
abbrev s__law_same_pairs : Stmt := topS 47
theorem sc__law_same_pairs : FnScope ["_law_found", "_law_due", "_law_k"] ["_law_found", "_law_due"] (defScope s__law_same_pairs) := ⟨rfl, rfl, rfl, by decide +kernel, rfl, by decide +kernel, by decide +kernel⟩
abbrev s__law_refused : Stmt := topS 48
theorem sc__law_refused : FnScope ["_law_number_here", "_law_pairs_here", "_law_base", "e"] ["_law_number_here", "_law_pairs_here", "_law_base"] (defScope s__law_refused) := ⟨rfl, rfl, rfl, by decide +kernel, rfl, by decide +kernel, by decide +kernel⟩
abbrev s__law_number : Stmt := topS 49
theorem sc__law_number : FnScope ["_law_cell"] ["_law_cell"] (defScope s__law_number) := ⟨rfl, rfl, rfl, by decide +kernel, rfl, by decide +kernel, by decide +kernel⟩
abbrev s__law_pairs : Stmt := topS 50
theorem sc__law_pairs : FnScope ["_law_script", "_law_pairs_here", "_law_k", "_law_cell", "_law_row_here", "_law_j"] ["_law_script"] (defScope s__law_pairs) := ⟨rfl, rfl, rfl, by decide +kernel, rfl, by decide +kernel, by decide +kernel⟩
abbrev s__law_joins : Stmt := topS 51
theorem sc__law_joins : FnScope ["_law_number_here", "_law_pairs_here", "_law_due", "_law_pair", "_law_k", "_law_kept", "_law_found", "_law_place", "_law_odd"] ["_law_number_here", "_law_pairs_here"] (defScope s__law_joins) := ⟨rfl, rfl, rfl, by decide +kernel, rfl, by decide +kernel, by decide +kernel⟩
abbrev s_law : Stmt := topS 52
theorem sc_law : FnScope ["_law_script", "_law_first", "_law_number_here", "_law_told", "_law_row_here", "_law_due", "_law_count", "_law_part", "_law_k", "_law_found", "_law_paper_here"] ["_law_script"] (defScope s_law) := ⟨rfl, rfl, rfl, by decide +kernel, rfl, by decide +kernel, by decide +kernel⟩
structure Txt0 (K : PySem.W.Frag) (mg : Str → Option Value) where
  a_greatest : Addr
  d_greatest : FuncData
  F_greatest : Fun K "greatest" "greatest" s_greatest a_greatest d_greatest
  m_greatest : mg "greatest" = some (.ref a_greatest)
  b_greatest : Binds K d_greatest ["one", "other"] []
  a_content : Addr
  d_content : FuncData
  F_content : Fun K "content" "content" s_content a_content d_content
  m_content : mg "content" = some (.ref a_content)
  b_content : Binds K d_content ["row"] []
  a_signed_content : Addr
  d_signed_content : FuncData
  F_signed_content : Fun K "signed_content" "signed_content" s_signed_content a_signed_content d_signed_content
  m_signed_content : mg "signed_content" = some (.ref a_signed_content)
  b_signed_content : Binds K d_signed_content ["row"] []
  a_simple : Addr
  d_simple : FuncData
  F_simple : Fun K "simple" "simple" s_simple a_simple d_simple
  m_simple : mg "simple" = some (.ref a_simple)
  b_simple : Binds K d_simple ["row"] []
  a_trimmed : Addr
  d_trimmed : FuncData
  F_trimmed : Fun K "trimmed" "trimmed" s_trimmed a_trimmed d_trimmed
  m_trimmed : mg "trimmed" = some (.ref a_trimmed)
  b_trimmed : Binds K d_trimmed ["row"] []
  a_made : Addr
  d_made : FuncData
  F_made : Fun K "made" "made" s_made a_made d_made
  m_made : mg "made" = some (.ref a_made)
  b_made : Binds K d_made ["numbers"] []
  a_number_at : Addr
  d_number_at : FuncData
  F_number_at : Fun K "number_at" "number_at" s_number_at a_number_at d_number_at
  m_number_at : mg "number_at" = some (.ref a_number_at)
  b_number_at : Binds K d_number_at ["row", "place"] []
  a_minus : Addr
  d_minus : FuncData
  F_minus : Fun K "minus" "minus" s_minus a_minus d_minus
  m_minus : mg "minus" = some (.ref a_minus)
  b_minus : Binds K d_minus ["ones", "others"] []
  a_scaled : Addr
  d_scaled : FuncData
  F_scaled : Fun K "scaled" "scaled" s_scaled a_scaled d_scaled
  m_scaled : mg "scaled" = some (.ref a_scaled)
  b_scaled : Binds K d_scaled ["row", "many"] []
  a_times : Addr
  d_times : FuncData
  F_times : Fun K "times" "times" s_times a_times d_times
  m_times : mg "times" = some (.ref a_times)
  b_times : Binds K d_times ["ones", "others"] []
  a_raised : Addr
  d_raised : FuncData
  F_raised : Fun K "raised" "raised" s_raised a_raised d_raised
  m_raised : mg "raised" = some (.ref a_raised)
  b_raised : Binds K d_raised ["row", "many"] []
  a_slope : Addr
  d_slope : FuncData
  F_slope : Fun K "slope" "slope" s_slope a_slope d_slope
  m_slope : mg "slope" = some (.ref a_slope)
  b_slope : Binds K d_slope ["row"] []
  a_divided : Addr
  d_divided : FuncData
  F_divided : Fun K "divided" "divided" s_divided a_divided d_divided
  m_divided : mg "divided" = some (.ref a_divided)
  b_divided : Binds K d_divided ["row", "by"] []
  a_quotient : Addr
  d_quotient : FuncData
  F_quotient : Fun K "quotient" "quotient" s_quotient a_quotient d_quotient
  m_quotient : mg "quotient" = some (.ref a_quotient)
  b_quotient : Binds K d_quotient ["row", "by"] []
  a_shared : Addr
  d_shared : FuncData
  F_shared : Fun K "shared" "shared" s_shared a_shared d_shared
  m_shared : mg "shared" = some (.ref a_shared)
  b_shared : Binds K d_shared ["row", "ones", "others", "many"] []
  a_begun : Addr
  d_begun : FuncData
  F_begun : Fun K "begun" "begun" s_begun a_begun d_begun
  m_begun : mg "begun" = some (.ref a_begun)
  b_begun : Binds K d_begun ["row", "first"] []
  a_behind : Addr
  d_behind : FuncData
  F_behind : Fun K "behind" "behind" s_behind a_behind d_behind
  m_behind : mg "behind" = some (.ref a_behind)
  b_behind : Binds K d_behind ["here", "there"] []
  a_meet : Addr
  d_meet : FuncData
  F_meet : Fun K "meet" "meet" s_meet a_meet d_meet
  m_meet : mg "meet" = some (.ref a_meet)
  b_meet : Binds K d_meet ["ones", "others"] []
  a_parts : Addr
  d_parts : FuncData
  F_parts : Fun K "parts" "parts" s_parts a_parts d_parts
  m_parts : mg "parts" = some (.ref a_parts)
  b_parts : Binds K d_parts ["row"] []
  a_joined : Addr
  d_joined : FuncData
  F_joined : Fun K "joined" "joined" s_joined a_joined d_joined
  m_joined : mg "joined" = some (.ref a_joined)
  b_joined : Binds K d_joined ["number", "pairs"] []
  a_no_square : Addr
  d_no_square : FuncData
  F_no_square : Fun K "no_square" "no_square" s_no_square a_no_square d_no_square
  m_no_square : mg "no_square" = some (.ref a_no_square)
  b_no_square : Binds K d_no_square ["row"] []
  a__law_whole : Addr
  d__law_whole : FuncData
  F__law_whole : Fun K "_law_whole" "_law_whole" s__law_whole a__law_whole d__law_whole
  m__law_whole : mg "_law_whole" = some (.ref a__law_whole)
  b__law_whole : Binds K d__law_whole ["_law_found"] []
  a__law_cell_at : Addr
  d__law_cell_at : FuncData
  F__law_cell_at : Fun K "_law_cell_at" "_law_cell_at" s__law_cell_at a__law_cell_at d__law_cell_at
  m__law_cell_at : mg "_law_cell_at" = some (.ref a__law_cell_at)
  b__law_cell_at : Binds K d__law_cell_at ["_law_script", "_law_k"] []
  a__law_trim : Addr
  d__law_trim : FuncData
  F__law_trim : Fun K "_law_trim" "_law_trim" s__law_trim a__law_trim d__law_trim
  m__law_trim : mg "_law_trim" = some (.ref a__law_trim)
  b__law_trim : Binds K d__law_trim ["_law_row_here"] []
  a__law_same : Addr
  d__law_same : FuncData
  F__law_same : Fun K "_law_same" "_law_same" s__law_same a__law_same d__law_same
  m__law_same : mg "_law_same" = some (.ref a__law_same)
  b__law_same : Binds K d__law_same ["_law_found", "_law_due"] []
  a__law_times : Addr
  d__law_times : FuncData
  F__law_times : Fun K "_law_times" "_law_times" s__law_times a__law_times d__law_times
  m__law_times : mg "_law_times" = some (.ref a__law_times)
  b__law_times : Binds K d__law_times ["_law_ones", "_law_others"] []
  a__law_greatest : Addr
  d__law_greatest : FuncData
  F__law_greatest : Fun K "_law_greatest" "_law_greatest" s__law_greatest a__law_greatest d__law_greatest
  m__law_greatest : mg "_law_greatest" = some (.ref a__law_greatest)
  b__law_greatest : Binds K d__law_greatest ["_law_one", "_law_other"] []
  a__law_plus : Addr
  d__law_plus : FuncData
  F__law_plus : Fun K "_law_plus" "_law_plus" s__law_plus a__law_plus d__law_plus
  m__law_plus : mg "_law_plus" = some (.ref a__law_plus)
  b__law_plus : Binds K d__law_plus ["_law_ones", "_law_others"] []
  a__law_row : Addr
  d__law_row : FuncData
  F__law_row : Fun K "_law_row" "_law_row" s__law_row a__law_row d__law_row
  m__law_row : mg "_law_row" = some (.ref a__law_row)
  b__law_row : Binds K d__law_row ["_law_found"] []
  a__law_paper : Addr
  d__law_paper : FuncData
  F__law_paper : Fun K "_law_paper" "_law_paper" s__law_paper a__law_paper d__law_paper
  m__law_paper : mg "_law_paper" = some (.ref a__law_paper)
  b__law_paper : Binds K d__law_paper ["_law_found", "_law_row_here"] []
  a__law_piece : Addr
  d__law_piece : FuncData
  F__law_piece : Fun K "_law_piece" "_law_piece" s__law_piece a__law_piece d__law_piece
  m__law_piece : mg "_law_piece" = some (.ref a__law_piece)
  b__law_piece : Binds K d__law_piece ["_law_cell"] []
  a__law_pieces : Addr
  d__law_pieces : FuncData
  F__law_pieces : Fun K "_law_pieces" "_law_pieces" s__law_pieces a__law_pieces d__law_pieces
  m__law_pieces : mg "_law_pieces" = some (.ref a__law_pieces)
  b__law_pieces : Binds K d__law_pieces ["_law_script"] []
  a__law_same_pairs : Addr
  d__law_same_pairs : FuncData
  F__law_same_pairs : Fun K "_law_same_pairs" "_law_same_pairs" s__law_same_pairs a__law_same_pairs d__law_same_pairs
  m__law_same_pairs : mg "_law_same_pairs" = some (.ref a__law_same_pairs)
  b__law_same_pairs : Binds K d__law_same_pairs ["_law_found", "_law_due"] []
  a__law_refused : Addr
  d__law_refused : FuncData
  F__law_refused : Fun K "_law_refused" "_law_refused" s__law_refused a__law_refused d__law_refused
  m__law_refused : mg "_law_refused" = some (.ref a__law_refused)
  b__law_refused : Binds K d__law_refused ["_law_number_here", "_law_pairs_here", "_law_base"] []
  a__law_number : Addr
  d__law_number : FuncData
  F__law_number : Fun K "_law_number" "_law_number" s__law_number a__law_number d__law_number
  m__law_number : mg "_law_number" = some (.ref a__law_number)
  b__law_number : Binds K d__law_number ["_law_cell"] []
  a__law_pairs : Addr
  d__law_pairs : FuncData
  F__law_pairs : Fun K "_law_pairs" "_law_pairs" s__law_pairs a__law_pairs d__law_pairs
  m__law_pairs : mg "_law_pairs" = some (.ref a__law_pairs)
  b__law_pairs : Binds K d__law_pairs ["_law_script"] []
  a__law_joins : Addr
  d__law_joins : FuncData
  F__law_joins : Fun K "_law_joins" "_law_joins" s__law_joins a__law_joins d__law_joins
  m__law_joins : mg "_law_joins" = some (.ref a__law_joins)
  b__law_joins : Binds K d__law_joins ["_law_number_here", "_law_pairs_here"] []
  a_law : Addr
  d_law : FuncData
  F_law : Fun K "law" "law" s_law a_law d_law
  m_law : mg "law" = some (.ref a_law)
  b_law : Binds K d_law ["_law_script"] []
  A_PolyError : Addr
  e_PolyError : Err K mg "PolyError" A_PolyError
  A_NoNumber : Addr
  e_NoNumber : Err K mg "NoNumber" A_NoNumber
  A_NoPower : Addr
  e_NoPower : Err K mg "NoPower" A_NoPower
  A_ByNought : Addr
  e_ByNought : Err K mg "ByNought" A_ByNought
  A_NotWhole : Addr
  e_NotWhole : Err K mg "NotWhole" A_NotWhole
  A_NoMeet : Addr
  e_NoMeet : Err K mg "NoMeet" A_NoMeet
  A_NoParts : Addr
  e_NoParts : Err K mg "NoParts" A_NoParts
  u_NoPower_PolyError : PySem.W.exmOne K (.ref A_NoPower) (.ref A_PolyError) = some true
  u_NoPower_NoPower : PySem.W.exmOne K (.ref A_NoPower) (.ref A_NoPower) = some true
  z_ValueError : mg "ValueError" = none
  z_abs : mg "abs" = none
  z_bool : mg "bool" = none
  z_int : mg "int" = none
  z_isinstance : mg "isinstance" = none
  z_len : mg "len" = none
  z_list : mg "list" = none
  z_max : mg "max" = none
  z_range : mg "range" = none
  z_tuple : mg "tuple" = none
structure Txt (P : Program) (K : PySem.W.Frag) (mg : Str → Option Value) (base : Heap) extends Txt0 K mg where
  seer : base.NoSeer
  tree : P.given.tree = none

section
variable {P : Program} {w : World} {K : PySem.W.Frag} {mg : Str → Option Value} {base : Heap}
def sp_greatest : Sp := fun vs H Q _ => ∃ (i j : Int), vs = [.int i, .int j] ∧ NR Q (.int (Nat.gcd i.natAbs j.natAbs : Nat)) H []
theorem WC_greatest {H0 : Hp} {fs : Fs} {Φ : CV} {i j : Int} (q : Φ (.int (Nat.gcd i.natAbs j.natAbs : Nat)) fs) : WC sp_greatest [.int i, .int j] H0 fs Φ :=
  fun H k Q E c => ⟨i, j, rfl, fun H' k' => c _ _ _ (k.app k') q⟩
theorem ok_greatest (T : Txt P K mg base) : FnOk P w K mg base CX0 41 T.a_greatest T.d_greatest ["one", "other"] sp_greatest := by
  refine T.F_greatest.ok sc_greatest (fun vs H Q E h => ?_) (fun cdv A outer s H vs Q E hr h => ?_)
  · obtain ⟨i, j, rfl, _⟩ := h; rfl
  · obtain ⟨i, j, rfl, q⟩ := h
    refine ⟨_, (pss_cons (ps_set (i := 0) sc_greatest.nd rfl (Or.inl rfl) (pe_callB cAbs (by rfl) T.z_abs (by decide +kernel) (pa_cons (pv 0) pa_nil)))
      (pss_cons (ps_set (i := 1) sc_greatest.nd rfl (Or.inl rfl) (pe_callB cAbs (by rfl) T.z_abs (by decide +kernel) (pa_cons (pv 1) pa_nil)))
      (pss_cons (ps_while PassesOwn.never (pt_cmpR op_gt (pv 1) pe_int (nomark _)) (pss_cons (ps_set (i := 2) sc_greatest.nd rfl (Or.inl rfl) (pe_op op_mod (pv 0) (pv 1)))
      (pss_cons (ps_set (i := 0) sc_greatest.nd rfl (Or.inl rfl) (pv 1))
      (pss_one (ps_set (i := 1) sc_greatest.nd rfl (Or.inl rfl) (pv 2))))))
      (pss_one (ps_ret (pv 0)))))), ?_⟩
    refine N.go (σ := [some (.int i), some (.int j), none]) ?_
    walk_at "w"
    walk_at "d"
    walk_at "w"
    walk_at "d"
    walk_at "w"
    refine S.while_ (fun m σ f => ∃ x z, σ = [some (.int ((x : Nat) : Int)), some (.int (m : Int)), z] ∧ f = [] ∧ Nat.gcd x m = Nat.gcd i.natAbs j.natAbs) j.natAbs ⟨i.natAbs, none, rfl, rfl, rfl⟩ ?_
    rintro m σ f ⟨x, z, rfl, rfl, hg⟩
    walk_at "w"
    walk_at "if"
    · rename_i hp
      have hm : 0 < m := by omega
      walk_at "w"
      walk_at "d"
      walk_at "w"
      walk_at "d"
      walk_at "w"
      walk_at "d"
      have e : ((x : Int) % (m : Int)) = ((x % m : Nat) : Int) := (Int.natCast_emod x m).symm
      rw [e]
      refine Wl.nx (m' := x % m) (Nat.mod_lt _ hm) ⟨m, _, rfl, rfl, ?_⟩
      rw [← hg, Nat.gcd_comm x m, Nat.gcd_rec m x, Nat.gcd_comm]
    · rename_i hp
      have hm : m = 0 := by omega
      subst hm
      rw [Nat.gcd_zero_right] at hg
      walk_at "w"
      rw [hg]
      exact NR.sub q (by walk_at "sub")

end

section
variable {P : Program} {w : World} {K : PySem.W.Frag} {mg : Str → Option Value} {base : Heap}
def sp_content : Sp := fun vs H Q _ => ∃ (a : Addr) (xs : List Int), vs = [.ref a] ∧ H a = some (.lst (zV xs)) ∧ NR Q (.int (cont xs : Int)) H []
theorem WC_content {H0 : Hp} {fs : Fs} {Φ : CV} {a : Addr} {xs : List Int} (h : Rx H0 fs a (.lst (zV xs))) (q : Φ (.int (cont xs : Int)) fs) : WC sp_content [.ref a] H0 fs Φ :=
  fun H k Q E c => ⟨a, xs, rfl, h H k, fun H' k' => c _ _ _ (k.app k') q⟩
theorem ok_content (T : Txt P K mg base) : FnOk P w K mg base CX0 42 T.a_content T.d_content ["row"] sp_content := by
  refine T.F_content.ok sc_content (fun vs H Q E h => ?_) (fun cdv A outer s H vs Q E hr h => ?_)
  · obtain ⟨a, xs, rfl, _⟩ := h; rfl
  · obtain ⟨a, xs, rfl, hA, q⟩ := h
    refine ⟨_, (pss_cons (ps_set (i := 1) sc_content.nd rfl (Or.inl rfl) pe_int)
      (pss_cons (ps_for PassesOwn.never rfl (pi_list (pv 0)) (pg_name (i := 2) sc_content.nd rfl (Or.inl rfl)) (pss_one (ps_set (i := 1) sc_content.nd rfl (Or.inl rfl) (pe_call (ok_greatest T) (hr.mono (by decide)) (by rfl) T.m_greatest T.F_greatest.kp T.b_greatest .nil pass0 (pa_cons (pv 1) (pa_cons (pv 2) pa_nil))))))
      (pss_one (ps_ret (pv 1))))), ?_⟩
    refine N.go (σ := [some (.ref a), none, none]) ?_
    walk_at "w"
    walk_at "d"
    refine S.forZ (a := a) (ns := xs) (fun i σ f => ∃ y, σ = [some (.ref a), some (.int (cont (xs.take i) : Int)), y] ∧ f = []) ?_ ?_ ?_ ?_
    · walk_at "w"
      exact ⟨rfl, by walk_at "rl", none, rfl, rfl⟩
    · rintro i σ f ⟨y, rfl, rfl⟩
      walk_at "rl"
    · rintro i σ f hi ⟨y, rfl, rfl⟩
      walk_at "d"
      walk_at "w"
      refine WC_greatest ?_
      walk_at "d"
      rw [Int.natAbs_natCast, ← cont_snoc, ← take_succ_getD hi]
      walk_at "lp"
      exact ⟨_, rfl, rfl⟩
    · rintro σ f ⟨y, rfl, rfl⟩
      rw [List.take_length]
      walk_at "w"
      exact NR.sub q (by walk_at "sub")

end

section
variable {P : Program} {w : World} {K : PySem.W.Frag} {mg : Str → Option Value} {base : Heap}
def sp_signed_content : Sp := fun vs H Q _ => ∃ (a : Addr) (xs : List Int), vs = [.ref a] ∧ H a = some (.lst (zV xs)) ∧ NR Q (.int (sgc xs)) H []
theorem WC_signed_content {H0 : Hp} {fs : Fs} {Φ : CV} {a : Addr} {xs : List Int} (h : Rx H0 fs a (.lst (zV xs))) (q : Φ (.int (sgc xs)) fs) : WC sp_signed_content [.ref a] H0 fs Φ :=
  fun H k Q E c => ⟨a, xs, rfl, h H k, fun H' k' => c _ _ _ (k.app k') q⟩
theorem ok_signed_content (T : Txt P K mg base) : FnOk P w K mg base CX0 43 T.a_signed_content T.d_signed_content ["row"] sp_signed_content := by
  refine T.F_signed_content.ok sc_signed_content (fun vs H Q E h => ?_) (fun cdv A outer s H vs Q E hr h => ?_)
  · obtain ⟨a, xs, rfl, _⟩ := h; rfl
  · obtain ⟨a, xs, rfl, hA, q⟩ := h
    refine ⟨_, (pss_cons (ps_if (PW.pt (pw_and (pt_cmpR (op_neD hr.units) (pv 0) (pe_lst pa_nil) (nomark _)) (pw_and1 (pt_cmpR op_lt (pe_ix ix_list (pv 0) (pe_un un_neg pe_int) (fun _ _ => rfl)) pe_int (nomark _))))) (pss_one (ps_ret (pe_un un_neg (pe_call (ok_content T) (hr.mono (by decide)) (by rfl) T.m_content T.F_content.kp T.b_content .nil pass0 (pa_cons (pv 0) pa_nil))))) pss_nil)
      (pss_one (ps_ret (pe_call (ok_content T) (hr.mono (by decide)) (by rfl) T.m_content T.F_content.kp T.b_content .nil pass0 (pa_cons (pv 0) pa_nil))))), ?_⟩
    refine N.go (σ := [some (.ref a)]) ?_
    walk_at "w"
    intro z
    walk_at "w"
    walk_at "if"
    · rename_i hne
      have hlast : atI (zV xs) (-1) = some (.int (xs.getLast hne)) := atI_lastI hne
      have hg : xs.getLast?.getD 0 = xs.getLast hne := by rw [List.getLast?_eq_some_getLast hne]; rfl
      walk_at "w"
      refine RW.ixL (by walk_at "rl") hlast ?_
      walk_at "w"
      walk_at "if"
      · rename_i hneg
        walk_at "w"
        refine WC_content (xs := xs) (by walk_at "rx") ?_
        walk_at "w"
        unfold sgc at q
        rw [hg, if_pos hneg] at q
        exact NR.sub q (by walk_at "sub")
      · rename_i hneg
        walk_at "w"
        refine WC_content (xs := xs) (by walk_at "rx") ?_
        unfold sgc at q
        rw [hg, if_neg hneg] at q
        exact NR.sub q (by walk_at "sub")
    · rename_i hne
      walk_at "w"
      refine WC_content (xs := xs) (by walk_at "rx") ?_
      have e : xs = [] := by simpa using hne
      subst e
      exact NR.sub q (by walk_at "sub")

end

section
variable {P : Program} {w : World} {K : PySem.W.Frag} {mg : Str → Option Value} {base : Heap}
def sp_simple : Sp := fun vs H Q _ => ∃ (a : Addr) (xs : List Int), vs = [.ref a] ∧ H a = some (.lst (zV xs)) ∧ xs.length ≤ 90000 ∧ Tr xs ∧ ∀ p, NR Q (.ref p) H [(p, .lst (zV (simp' xs)))]
theorem WC_simple {H0 : Hp} {fs : Fs} {Φ : CV} {a : Addr} {xs : List Int} (h : Rx H0 fs a (.lst (zV xs))) (hl : xs.length ≤ 90000) (ht : Tr xs) (q : ∀ p, Φ (.ref p) ((p, .lst (zV (simp' xs))) :: fs)) : WC sp_simple [.ref a] H0 fs Φ :=
  fun H k Q E c => ⟨a, xs, rfl, h H k, hl, ht, fun p H' k' => c _ _ _ (k.app k') (q p)⟩
theorem ok_simple (T : Txt P K mg base) : FnOk P w K mg base CX0 44 T.a_simple T.d_simple ["row"] sp_simple := by
  refine T.F_simple.ok sc_simple (fun vs H Q E h => ?_) (fun cdv A outer s H vs Q E hr h => ?_)
  · obtain ⟨a, xs, rfl, _⟩ := h; rfl
  · obtain ⟨a, xs, rfl, hA, hl, hc, q⟩ := h
    refine ⟨_, (pss_cons (ps_set (i := 1) sc_simple.nd rfl (Or.inr rfl) (pe_call (ok_signed_content T) (hr.mono (by decide)) (by rfl) T.m_signed_content T.F_signed_content.kp T.b_signed_content .nil pass0 (pa_cons (pv 0) pa_nil)))
      (pss_one (ps_ret (pe_lc (own := [("number", 2)]) (g := gName 2) (tt := tYes) rfl sc_simple.nd (pi_list (pv 0)) (blkOk_by (own := [("number", 2)]) (N := ["row", "by", "number"]) (sc := defScope s_simple) (by decide +kernel)) (fun _ _ _ _ _ => pg_name (i := 2) sc_simple.nd rfl (Or.inl rfl)) (fun _ _ _ _ _ => pts_nil) (fun _ _ _ _ _ => (pe_op (op_fdivP (Big.of T.seer hr (by decide) ⟨_, _, rfl, rfl, rfl, rfl, rfl⟩) T.tree) (pv 2) (pv 1))))))), ?_⟩
    refine N.go (σ := [some (.ref a), none, none]) ?_
    walk_at "w"
    refine WC_signed_content (xs := xs) (by walk_at "rx") ?_
    walk_at "d"
    walk_at "w"
    refine W.lcZz (ns := xs) (fun x => x.fdiv (sgc xs)) ?_
    walk_at "w"
    refine ⟨by walk_at "rl", by omega, fun _ => rfl, fun x D acc hx => ?_, fun D => ?_⟩
    · walk_at "d"
      have hcx : CDivP x (sgc xs) := sgc_ne hc (List.ne_nil_of_mem hx)
      walk_at "w"
      exact ⟨rfl, by walk_at "sub"⟩
    · walk_at "w"
      exact NR.sub (q D) (by walk_at "sub")

end

section
variable {P : Program} {w : World} {K : PySem.W.Frag} {mg : Str → Option Value} {base : Heap}
def sp_trimmed : Sp := fun vs H Q _ => ∃ (a : Addr) (xs : List Int), vs = [.ref a] ∧ H a = some (.lst (zV xs)) ∧ xs.length ≤ 100000 ∧ ∀ p, NR Q (.ref p) H [(p, .lst (zV (trim xs)))]
theorem WC_trimmed {H0 : Hp} {fs : Fs} {Φ : CV} {a : Addr} {xs : List Int} (h : Rx H0 fs a (.lst (zV xs))) (hl : xs.length ≤ 100000) (q : ∀ p, Φ (.ref p) ((p, .lst (zV (trim xs))) :: fs)) : WC sp_trimmed [.ref a] H0 fs Φ :=
  fun H k Q E c => ⟨a, xs, rfl, h H k, hl, fun p H' k' => c _ _ _ (k.app k') (q p)⟩
theorem ok_trimmed (T : Txt P K mg base) : FnOk P w K mg base CX0 41 T.a_trimmed T.d_trimmed ["row"] sp_trimmed := by
  refine T.F_trimmed.ok sc_trimmed (fun vs H Q E h => ?_) (fun cdv A outer s H vs Q E hr h => ?_)
  · obtain ⟨a, xs, rfl, _⟩ := h; rfl
  · obtain ⟨a, xs, rfl, hA, hl, q⟩ := h
    refine ⟨_, (pss_cons (ps_set (i := 1) sc_trimmed.nd rfl (Or.inl rfl) (pe_callB cLen (by rfl) T.z_len PySem.boot_len (pa_cons (pv 0) pa_nil)))
      (pss_cons (ps_while PassesOwn.never (PW.pt (pw_and (pt_cmpR op_gt (pv 1) pe_int (nomark _)) (pw_and1 (pt_cmpR op_eq (pe_ix ix_list (pv 0) (pe_op op_sub (pv 1) pe_int) (fun _ _ => rfl)) pe_int (nomark _))))) (pss_one (ps_set (i := 1) sc_trimmed.nd rfl (Or.inl rfl) (pe_op op_sub (pv 1) pe_int))))
      (pss_one (ps_ret (pe_slice sl_list (pv 0) po_none (po_some (pv 1))))))), ?_⟩
    refine N.go (σ := [some (.ref a), none]) ?_
    walk_at "w"
    refine S.while_ (fun m σ f => σ = [some (.ref a), some (.int (m : Int))] ∧ f = [] ∧ m ≤ xs.length ∧ trim xs = trim (xs.take m)) xs.length ⟨rfl, rfl, Nat.le_refl _, by rw [List.take_length]⟩ ?_
    rintro m σ f ⟨rfl, rfl, hm, ht⟩
    walk_at "w"
    walk_at "if"
    · walk_at "w"
      walk_at "if"
      · -- one nought less
        walk_at "w"
        rename_i h1 h2
        have em : ((m : Int) - 1) = ((m - 1 : Nat) : Int) := by omega
        rw [em]
        refine Wl.nx (m' := m - 1) (by omega) ⟨rfl, rfl, by omega, ?_⟩
        rw [ht]
        have e2 : m = (m - 1) + 1 := by omega
        rw [em, gat_nat] at h2
        rw [e2, take_succ_getD (by omega : m - 1 < xs.length), h2, trim_zero]
        rfl
      · walk_at "w"
        rename_i h1 h2
        intro l
        have em : ((m : Int) - 1) = ((m - 1 : Nat) : Int) := by omega
        have e2 : m = (m - 1) + 1 := by omega
        rw [em, gat_nat] at h2
        have e3 : trim xs = xs.take m := by
          rw [ht, e2, take_succ_getD (by omega : m - 1 < xs.length), trim_last _ h2]
        rw [e3] at q
        have e4 : ((m : Int)).toNat = m := by simp
        rw [e4]
        exact NR.sub (q l) (by walk_at "sub")
    · walk_at "w"
      rename_i h1
      intro l
      have e0 : m = 0 := by omega
      subst e0
      have e3 : trim xs = [] := by rw [ht]; rfl
      rw [e3] at q
      exact NR.sub (q l) (by walk_at "sub")

end

section
variable {P : Program} {w : World} {K : PySem.W.Frag} {mg : Str → Option Value} {base : Heap}
def sp_made (K : PySem.W.Frag) : Sp := fun vs H Q _ => ∃ (a : Addr) (xs : List Int), vs = [.ref a] ∧ (SqL K H a (zV xs) ∨ SqT K H a (zV xs)) ∧ xs.length ≤ 90000 ∧ ∀ p, NR Q (.ref p) H [(p, .lst (zV (trim xs)))]
theorem WC_made {K : PySem.W.Frag} {H0 : Hp} {fs : Fs} {Φ : CV} {a : Addr} {xs : List Int} (h : Rl K H0 fs a (zV xs)) (hl : xs.length ≤ 90000) (q : ∀ p, Φ (.ref p) ((p, .lst (zV (trim xs))) :: fs)) : WC (sp_made K) [.ref a] H0 fs Φ :=
  fun H k Q E c => ⟨a, xs, rfl, .inl (h H k), hl, fun p H' k' => c _ _ _ (k.app k') (q p)⟩
theorem WC_madeT {K : PySem.W.Frag} {H0 : Hp} {fs : Fs} {Φ : CV} {a : Addr} {xs : List Int} (h : Rt K H0 fs a (zV xs)) (hl : xs.length ≤ 90000) (q : ∀ p, Φ (.ref p) ((p, .lst (zV (trim xs))) :: fs)) : WC (sp_made K) [.ref a] H0 fs Φ :=
  fun H k Q E c => ⟨a, xs, rfl, .inr (h H k), hl, fun p H' k' => c _ _ _ (k.app k') (q p)⟩
theorem ok_made (T : Txt P K mg base) : FnOk P w K mg base CX0 42 T.a_made T.d_made ["numbers"] (sp_made K) := by
  refine T.F_made.ok sc_made (fun vs H Q E h => ?_) (fun cdv A outer s H vs Q E hr h => ?_)
  · obtain ⟨a, xs, rfl, _⟩ := h; rfl
  · obtain ⟨a, xs, rfl, hA, hl, q⟩ := h
    refine ⟨_, (pss_cons (ps_for PassesOwn.never rfl (pi_seq (pv 0)) (pg_name (i := 1) sc_made.nd rfl (Or.inl rfl)) (pss_one (ps_if (PW.pt (pw_or (pt_val (pe_callB call_isi (by rfl) T.z_isinstance (by decide +kernel) (pa_cons (pv 1) (pa_cons (pe_bltn (v := .ty "bool") (by rfl) T.z_bool (by decide +kernel) rfl) pa_nil)))) (pw_or1 (pt_not (pt_val (pe_callB call_isi (by rfl) T.z_isinstance (by decide +kernel) (pa_cons (pv 1) (pa_cons (pe_bltn (v := .ty "int") (by rfl) T.z_int (by decide +kernel) rfl) pa_nil)))))))) (pss_one ps_never) pss_nil)))
      (pss_one (ps_ret (pe_call (ok_trimmed T) (hr.mono (by decide)) (by rfl) T.m_trimmed T.F_trimmed.kp T.b_trimmed .nil pass0 (pa_cons (pe_callTy cListOf (by rfl) T.z_list (by decide +kernel) (pa_cons (pv 0) pa_nil)) pa_nil))))), ?_⟩
    refine N.go (σ := [some (.ref a), none]) ?_
    walk_at "w"
    refine S.forQ (K := K) (a := a) (xs := zV xs) hA (fun i σ f => (∃ y, σ = [some (.ref a), y]) ∧ f = []) (fun Φ h => W.var rfl h) ⟨⟨none, rfl⟩, rfl⟩ ?_ ?_
    · rintro i x σ f hx ⟨⟨y, rfl⟩, rfl⟩
      refine N.of ?_
      obtain ⟨z, rfl⟩ : ∃ z, x = .int z := by
        obtain ⟨z, _, e⟩ := List.mem_map.mp (List.mem_of_getElem? hx)
        exact ⟨z, e.symm⟩
      walk_at "d"
      walk_at "w"
      walk_at "lp"
      exact ⟨⟨_, rfl⟩, rfl⟩
    · rintro σ f ⟨⟨y, rfl⟩, rfl⟩
      walk_at "w"
      refine RC.listQ hA fun l => ?_
      walk_at "w"
      refine WC_trimmed (by walk_at "rx") (by omega) fun p => ?_
      exact NR.sub (q p) (by walk_at "sub")

end

section
variable {P : Program} {w : World} {K : PySem.W.Frag} {mg : Str → Option Value} {base : Heap}
def sp_number_at (K : PySem.W.Frag) : Sp := fun vs H Q _ => ∃ (a : Addr) (ns : List Int) (i : Int), vs = [.ref a, .int i] ∧ SqL K H a (zV ns) ∧ 0 ≤ i ∧ NR Q (.int (gat ns i)) H []
theorem WC_number_at {K : PySem.W.Frag} {H0 : Hp} {fs : Fs} {Φ : CV} {a : Addr} {ns : List Int} {i : Int} (h : Rl K H0 fs a (zV ns)) (hi : 0 ≤ i) (q : Φ (.int (gat ns i)) fs) : WC (sp_number_at K) [.ref a, .int i] H0 fs Φ :=
  fun H k Q E c => ⟨a, ns, i, rfl, h H k, hi, fun H' k' => c _ _ _ (k.app k') q⟩
theorem ok_number_at (T : Txt P K mg base) : FnOk P w K mg base CX0 41 T.a_number_at T.d_number_at ["row", "place"] (sp_number_at K) := by
  refine T.F_number_at.ok sc_number_at (fun vs H Q E h => ?_) (fun cdv A outer s H vs Q E hr h => ?_)
  · obtain ⟨a, ns, i, rfl, _⟩ := h; rfl
  · obtain ⟨a, ns, i, rfl, hS, h0, q⟩ := h
    refine ⟨_, (pss_cons (ps_if (pt_cmpR op_lt (pv 1) (pe_callB cLen (by rfl) T.z_len PySem.boot_len (pa_cons (pv 0) pa_nil)) (nomark _)) (pss_one (ps_ret (pe_ix ix_list (pv 0) (pv 1) (fun _ _ => rfl)))) pss_nil)
      (pss_one (ps_ret pe_int))), ?_⟩
    refine N.go (σ := [some (.ref a), some (.int i)]) ?_
    walk_at "w"
    walk_at "if"
    · walk_at "w"
      walk_at "fin"
    · walk_at "w"
      have e : gat ns i = 0 := by
        unfold gat
        rw [List.getD_eq_getElem?_getD, List.getElem?_eq_none (by omega)]; rfl
      rw [e] at q
      walk_at "fin"

end

section
variable {P : Program} {w : World} {K : PySem.W.Frag} {mg : Str → Option Value} {base : Heap}
def sp_minus : Sp := fun vs H Q _ => ∃ (a b : Addr) (xs ys : List Int), vs = [.ref a, .ref b] ∧ H a = some (.lst (zV xs)) ∧ H b = some (.lst (zV ys)) ∧ (xs.length ≤ 90000 ∧ ys.length ≤ 90000) ∧ ∀ p, NR Q (.ref p) H [(p, .lst (zV (minus xs ys)))]
theorem WC_minus {H0 : Hp} {fs : Fs} {Φ : CV} {a b : Addr} {xs ys : List Int} (h : Rx H0 fs a (.lst (zV xs))) (h2 : Rx H0 fs b (.lst (zV ys))) (hl : xs.length ≤ 90000 ∧ ys.length ≤ 90000) (q : ∀ p, Φ (.ref p) ((p, .lst (zV (minus xs ys))) :: fs)) : WC sp_minus [.ref a, .ref b] H0 fs Φ :=
  fun H k Q E c => ⟨a, b, xs, ys, rfl, h H k, h2 H k, hl, fun p H' k' => c _ _ _ (k.app k') (q p)⟩
theorem ok_minus (T : Txt P K mg base) : FnOk P w K mg base CX0 42 T.a_minus T.d_minus ["ones", "others"] sp_minus := by
  refine T.F_minus.ok sc_minus (fun vs H Q E h => ?_) (fun cdv A outer s H vs Q E hr h => ?_)
  · obtain ⟨a, b, xs, ys, rfl, _⟩ := h; rfl
  · obtain ⟨a, b, xs, ys, rfl, hA, hB, hl, q⟩ := h
    refine ⟨_, (pss_cons (ps_set (i := 2) sc_minus.nd rfl (Or.inl rfl) (pe_callB (cMax2 rfl) (by rfl) T.z_max (by decide +kernel) (pa_cons (pe_callB cLen (by rfl) T.z_len PySem.boot_len (pa_cons (pv 0) pa_nil)) (pa_cons (pe_callB cLen (by rfl) T.z_len PySem.boot_len (pa_cons (pv 1) pa_nil)) pa_nil))))
      (pss_one (ps_ret (pe_call (ok_trimmed T) (hr.mono (by decide)) (by rfl) T.m_trimmed T.F_trimmed.kp T.b_trimmed .nil pass0 (pa_cons (pe_lc (own := [("k", 3)]) (g := gName 3) (tt := tYes) rfl sc_minus.nd (pi_range1 rfl T.z_range (pa_cons (pv 2) pa_nil)) (blkOk_by (own := [("k", 3)]) (N := ["ones", "others", "size", "k"]) (sc := defScope s_minus) (by decide +kernel)) (fun _ _ _ _ _ => pg_name (i := 3) sc_minus.nd rfl (Or.inl rfl)) (fun _ _ _ _ _ => pts_nil) (fun _ _ _ _ _ => (pe_op op_sub (pe_call (ok_number_at T) (hr.mono (by decide)) (by rfl) T.m_number_at T.F_number_at.kp T.b_number_at .nil pass0 (pa_cons (pv 0) (pa_cons (pv 3) pa_nil))) (pe_call (ok_number_at T) (hr.mono (by decide)) (by rfl) T.m_number_at T.F_number_at.kp T.b_number_at .nil pass0 (pa_cons (pv 1) (pa_cons (pv 3) pa_nil)))))) pa_nil))))), ?_⟩
    refine N.go (σ := [some (.ref a), some (.ref b), none, none]) ?_
    walk_at "w"
    walk_at "d"
    walk_at "w"
    refine W.lcRz (n := max (xs.length : Int) (ys.length : Int)) (fun k => gat xs (k : Int) - gat ys (k : Int)) ?_
    walk_at "w"
    refine ⟨rfl, by omega, by omega, fun _ => rfl, fun i D acc hi => ?_, fun D => ?_⟩
    · walk_at "d"
      walk_at "w"
      refine WC_number_at (ns := xs) (by walk_at "rl") (by omega) ?_
      walk_at "w"
      refine WC_number_at (ns := ys) (by walk_at "rl") (by omega) ?_
      walk_at "w"
      exact ⟨rfl, by walk_at "sub"⟩
    · walk_at "w"
      refine WC_trimmed (by walk_at "rx") (by simp; omega) fun p => ?_
      exact NR.sub (q p) (by walk_at "sub")

end

section
variable {P : Program} {w : World} {K : PySem.W.Frag} {mg : Str → Option Value} {base : Heap}
def sp_scaled : Sp := fun vs H Q _ => ∃ (a : Addr) (xs : List Int) (m : Int) (b c : Nat), vs = [.ref a, .int m] ∧ H a = some (.lst (zV xs)) ∧ xs.length ≤ 90000 ∧ BdL b xs ∧ Bd c m ∧ b + c ≤ 134217728 ∧ ∀ p, NR Q (.ref p) H [(p, .lst (zV (scaled xs m)))]
theorem WC_scaled {H0 : Hp} {fs : Fs} {Φ : CV} {a : Addr} {xs : List Int} {m : Int} (b c : Nat) (h : Rx H0 fs a (.lst (zV xs))) (hl : xs.length ≤ 90000) (hb : BdL b xs) (hc : Bd c m) (hbc : b + c ≤ 134217728) (q : ∀ p, Φ (.ref p) ((p, .lst (zV (scaled xs m))) :: fs)) : WC sp_scaled [.ref a, .int m] H0 fs Φ :=
  fun H k Q E cc => ⟨a, xs, m, b, c, rfl, h H k, hl, hb, hc, hbc, fun p H' k' => cc _ _ _ (k.app k') (q p)⟩
theorem ok_scaled (T : Txt P K mg base) : FnOk P w K mg base CX0 42 T.a_scaled T.d_scaled ["row", "many"] sp_scaled := by
  refine T.F_scaled.ok sc_scaled (fun vs H Q E h => ?_) (fun cdv A outer s H vs Q E hr h => ?_)
  · obtain ⟨a, xs, m, b, c, rfl, _⟩ := h; rfl
  · obtain ⟨a, xs, m, b, c, rfl, hA, hl, hb, hc, hbc, q⟩ := h
    refine ⟨_, (pss_one (ps_ret (pe_call (ok_trimmed T) (hr.mono (by decide)) (by rfl) T.m_trimmed T.F_trimmed.kp T.b_trimmed .nil pass0 (pa_cons (pe_lc (own := [("number", 2)]) (g := gName 2) (tt := tYes) rfl sc_scaled.nd (pi_list (pv 0)) (blkOk_by (own := [("number", 2)]) (N := ["row", "many", "number"]) (sc := defScope s_scaled) (by decide +kernel)) (fun _ _ _ _ _ => pg_name (i := 2) sc_scaled.nd rfl (Or.inl rfl)) (fun _ _ _ _ _ => pts_nil) (fun _ _ _ _ _ => (pe_op op_mulG (pv 1) (pv 2)))) pa_nil)))), ?_⟩
    refine N.go (σ := [some (.ref a), some (.int m), none]) ?_
    walk_at "w"
    refine W.lcZz (ns := xs) (fun x => m * x) ?_
    walk_at "w"
    refine ⟨by walk_at "rl", by omega, fun _ => rfl, fun x D acc hx => ?_, fun D => ?_⟩
    · walk_at "d"
      have hok : IntMulOk m x := mulB hc (hb x hx) (by omega)
      walk_at "w"
      exact ⟨rfl, by walk_at "sub"⟩
    · walk_at "w"
      refine WC_trimmed (by walk_at "rx") (by rw [List.length_map]; omega) fun p => ?_
      exact NR.sub (q p) (by walk_at "sub")

end

section
variable {P : Program} {w : World} {K : PySem.W.Frag} {mg : Str → Option Value} {base : Heap}
def sp_times : Sp := fun vs H Q _ => ∃ (a b : Addr) (xs ys : List Int) (m n : Nat), vs = [.ref a, .ref b] ∧ H a = some (.lst (zV xs)) ∧ H b = some (.lst (zV ys)) ∧ (xs.length ≤ 40000 ∧ ys.length ≤ 40000) ∧ BdL m xs ∧ BdL n ys ∧ m + n ≤ 134217728 ∧ ∀ p, NR Q (.ref p) H [(p, .lst (zV (tm xs ys)))]
theorem WC_times {H0 : Hp} {fs : Fs} {Φ : CV} {a b : Addr} {xs ys : List Int} (m n : Nat) (h : Rx H0 fs a (.lst (zV xs))) (h2 : Rx H0 fs b (.lst (zV ys))) (hl : xs.length ≤ 40000 ∧ ys.length ≤ 40000) (hm : BdL m xs) (hn : BdL n ys) (hmn : m + n ≤ 134217728)
    (q : ∀ p, Φ (.ref p) ((p, .lst (zV (tm xs ys))) :: fs)) : WC sp_times [.ref a, .ref b] H0 fs Φ :=
  fun H k Q E c => ⟨a, b, xs, ys, m, n, rfl, h H k, h2 H k, hl, hm, hn, hmn, fun p H' k' => c _ _ _ (k.app k') (q p)⟩
theorem ok_times (T : Txt P K mg base) : FnOk P w K mg base CX0 42 T.a_times T.d_times ["ones", "others"] sp_times := by
  refine T.F_times.ok sc_times (fun vs H Q E h => ?_) (fun cdv A outer s H vs Q E hr h => ?_)
  · obtain ⟨a, b, xs, ys, m, n, rfl, _⟩ := h; rfl
  · obtain ⟨a, b, xs, ys, m, n, rfl, hA, hB, hl, hm, hn, hmn, q⟩ := h
    refine ⟨_, (pss_cons (ps_set (i := 2) sc_times.nd rfl (Or.inl rfl) (pe_op op_rep (pe_lst (pa_cons pe_int pa_nil)) (pe_op op_add (pe_callB cLen (by rfl) T.z_len PySem.boot_len (pa_cons (pv 0) pa_nil)) (pe_callB cLen (by rfl) T.z_len PySem.boot_len (pa_cons (pv 1) pa_nil)))))
      (pss_cons (ps_for PassesOwn.never rfl (pi_range1 rfl T.z_range (pa_cons (pe_callB cLen (by rfl) T.z_len PySem.boot_len (pa_cons (pv 0) pa_nil)) pa_nil)) (pg_name (i := 3) sc_times.nd rfl (Or.inl rfl)) (pss_one (ps_for PassesOwn.never rfl (pi_range1 rfl T.z_range (pa_cons (pe_callB cLen (by rfl) T.z_len PySem.boot_len (pa_cons (pv 1) pa_nil)) pa_nil)) (pg_name (i := 4) sc_times.nd rfl (Or.inl rfl)) (pss_one (ps_asg (pe_op op_add (pe_ix ix_list (pv 2) (pe_op op_add (pv 3) (pv 4)) (fun _ _ => rfl)) (pe_op op_mulG (pe_ix ix_list (pv 0) (pv 3) (fun _ _ => rfl)) (pe_ix ix_list (pv 1) (pv 4) (fun _ _ => rfl)))) (pg_sub (pv 2) (pe_op op_add (pv 3) (pv 4)) set_list))))))
      (pss_one (ps_ret (pe_call (ok_trimmed T) (hr.mono (by decide)) (by rfl) T.m_trimmed T.F_trimmed.kp T.b_trimmed .nil pass0 (pa_cons (pv 2) pa_nil)))))), ?_⟩
    refine N.go (σ := [some (.ref a), some (.ref b), none, none, none]) ?_
    walk_at "w"
    intro z
    walk_at "w"
    refine RW.rep (x := 0) (by walk_at "rx") (by omega) fun p => ?_
    have e0 : ((xs.length : Int) + (ys.length : Int)).toNat = xs.length + ys.length := by omega
    rw [e0]
    walk_at "d"
    walk_at "w"
    refine S.forR (n := (xs.length : Int)) (fun i σ f => ∃ y1 y2, σ = [some (.ref a), some (.ref b), some (.ref p), y1, y2] ∧ f = [(p, .lst (zV (lp (tmRow xs ys) i (List.replicate (xs.length + ys.length) 0)))), (z, .lst (zV [0]))]) ?_ ?_ ?_
    · walk_at "w"
      refine ⟨rfl, by omega, by omega, none, none, rfl, rfl⟩
    · rintro i σ f hi ⟨y1, y2, rfl, rfl⟩
      walk_at "d"
      have hacc : (lp (tmRow xs ys) i (List.replicate (xs.length + ys.length) 0)).length = xs.length + ys.length := by
        rw [lp_len (fun i a => tmRow_len _ _ _ _), List.length_replicate]
      have hnext : lp (tmRow xs ys) (i + 1) (List.replicate (xs.length + ys.length) 0) = tmRow xs ys i (lp (tmRow xs ys) i (List.replicate (xs.length + ys.length) 0)) := rfl
      rw [show (fun (i : Nat) (σ : St) (f : Fs) => ∃ y1 y2, σ = [some (.ref a), some (.ref b), some (.ref p), y1, y2] ∧ f = [(p, .lst (zV (lp (tmRow xs ys) i (List.replicate (xs.length + ys.length) 0)))), (z, .lst (zV [0]))]) = (fun (i : Nat) (σ : St) (f : Fs) => ∃ y1 y2, σ = [some (.ref a), some (.ref b), some (.ref p), y1, y2] ∧ f = [(p, .lst (zV (lp (tmRow xs ys) i (List.replicate (xs.length + ys.length) 0)))), (z, .lst (zV [0]))]) from rfl]
      generalize hA0 : lp (tmRow xs ys) i (List.replicate (xs.length + ys.length) 0) = acc at hacc hnext
      refine S.forR (n := (ys.length : Int)) (fun k σ f => ∃ y2, σ = [some (.ref a), some (.ref b), some (.ref p), some (.int (i : Int)), y2] ∧ f = [(p, .lst (zV (lp (tmIn (xs.getD i 0) ys i) k acc))), (z, .lst (zV [0]))]) ?_ ?_ ?_
      · walk_at "w"
        refine ⟨rfl, by omega, by omega, y2, rfl, rfl⟩
      · rintro k σ f hk ⟨y2, rfl, rfl⟩
        walk_at "d"
        have hlen : (lp (tmIn (xs.getD i 0) ys i) k acc).length = xs.length + ys.length := by
          rw [lp_len (fun i a => tmIn_len _ _ _ _ _)]; exact hacc
        have hok : IntMulOk (gat xs (i : Int)) (gat ys (k : Int)) := mulB (hm.gat _) (hn.gat _) hmn
        refine S.setL ?_
        walk_at "w"
        walk_at "set1"
        · rw [zV_length, hlen]; omega
        have ei : ((i : Int) + (k : Int)) = ((i + k : Nat) : Int) := by omega
        have e1 : ((i : Int) + (k : Int)).toNat = i + k := by omega
        rw [e1, zV_set, ei, gat_nat, gat_nat, gat_nat]
        walk_at "d"
        walk_at "lp"
        exact ⟨_, rfl, rfl⟩
      · rintro σ f ⟨y2, rfl, rfl⟩
        have ek : ((ys.length : Int)).toNat = ys.length := by simp
        rw [ek]
        walk_at "lp"
        refine ⟨_, y2, rfl, ?_⟩
        rw [hnext]
        rfl
    · rintro σ f ⟨y1, y2, rfl, rfl⟩
      have ek : ((xs.length : Int)).toNat = xs.length := by simp
      rw [ek]
      walk_at "w"
      have hlen := tmRaw_len xs ys
      refine WC_trimmed (xs := tmRaw xs ys) (by walk_at "rx") (by omega) fun r => ?_
      exact NR.sub (q r) (by walk_at "sub")

end

section
variable {P : Program} {w : World} {K : PySem.W.Frag} {mg : Str → Option Value} {base : Heap}
def sp_raised : Sp := fun vs H Q _ => ∃ (a : Addr) (xs : List Int) (c : Nat) (b : Nat), vs = [.ref a, .int (c : Int)] ∧ H a = some (.lst (zV xs)) ∧ c ≤ 100000 ∧ xs.length ≤ 4000 ∧ (∀ i, i ≤ c → (pw xs i).length ≤ 4000) ∧ BdL b xs ∧ 1 + (c + 1) * (b + 12) ≤ 134217728 ∧ ∀ p, NR Q (.ref p) H [(p, .lst (zV (pw xs c)))]
theorem WC_raised {H0 : Hp} {fs : Fs} {Φ : CV} {a : Addr} {xs : List Int} {c : Nat} (b : Nat) (h : Rx H0 fs a (.lst (zV xs))) (hc : c ≤ 100000) (hl : xs.length ≤ 4000) (hp : ∀ i, i ≤ c → (pw xs i).length ≤ 4000) (hb : BdL b xs) (hcb : 1 + (c + 1) * (b + 12) ≤ 134217728)
    (q : ∀ p, Φ (.ref p) ((p, .lst (zV (pw xs c))) :: fs)) : WC sp_raised [.ref a, .int (c : Int)] H0 fs Φ :=
  fun H k Q E cc => ⟨a, xs, c, b, rfl, h H k, hc, hl, hp, hb, hcb, fun p H' k' => cc _ _ _ (k.app k') (q p)⟩
theorem ok_raised (T : Txt P K mg base) : FnOk P w K mg base CX0 43 T.a_raised T.d_raised ["row", "many"] sp_raised := by
  refine T.F_raised.ok sc_raised (fun vs H Q E h => ?_) (fun cdv A outer s H vs Q E hr h => ?_)
  · obtain ⟨a, xs, c, b, rfl, _⟩ := h; rfl
  · obtain ⟨a, xs, c, b, rfl, hA, hc, hl, hp, hb, hcb, q⟩ := h
    refine ⟨_, (pss_cons (ps_if (pt_cmpR op_lt (pv 1) pe_int (nomark _)) (pss_one ps_never) pss_nil)
      (pss_cons (ps_set (i := 2) sc_raised.nd rfl (Or.inl rfl) (pe_lst (pa_cons pe_int pa_nil)))
      (pss_cons (ps_for PassesOwn.never rfl (pi_range1 rfl T.z_range (pa_cons (pv 1) pa_nil)) (pg_name (i := 3) sc_raised.nd rfl (Or.inl rfl)) (pss_one (ps_set (i := 2) sc_raised.nd rfl (Or.inl rfl) (pe_call (ok_times T) (hr.mono (by decide)) (by rfl) T.m_times T.F_times.kp T.b_times .nil pass0 (pa_cons (pv 2) (pa_cons (pv 0) pa_nil))))))
      (pss_one (ps_ret (pv 2)))))), ?_⟩
    refine N.go (σ := [some (.ref a), some (.int (c : Int)), none, none]) ?_
    walk_at "w"
    intro z
    walk_at "d"
    walk_at "w"
    refine S.forR (n := (c : Int)) (fun i σ f => ∃ r y, σ = [some (.ref a), some (.int (c : Int)), some (.ref r), y] ∧ f = [(r, .lst (zV (pw xs i)))] ∧ i ≤ c) ?_ ?_ ?_
    · walk_at "w"
      exact ⟨rfl, by omega, by omega, z, none, rfl, rfl, Nat.zero_le _⟩
    · rintro i σ f hi ⟨r, y, rfl, rfl, _⟩
      walk_at "d"
      walk_at "w"
      have hbi := pw_bd (c := 12) hb i fun j hj => Nat.le_trans (hp j (by omega)) (by decide)
      have hm : i * (b + 12) ≤ c * (b + 12) := Nat.mul_le_mul_right _ (by omega)
      rw [Nat.succ_mul] at hcb
      have hpi := hp i (by omega)
      refine WC_times (xs := pw xs i) (ys := xs) (1 + i * (b + 12)) b (by walk_at "rx") (by walk_at "rx") ⟨by omega, by omega⟩ hbi hb (by omega) fun r2 => ?_
      walk_at "d"
      refine Lp.sub [(r2, .lst (zV (tm (pw xs i) xs)))] (by walk_at "sub") ?_
      exact ⟨r2, _, rfl, rfl, by omega⟩
    · rintro σ f ⟨r, y, rfl, rfl, _⟩
      have ek : ((c : Int)).toNat = c := by simp
      rw [ek]
      walk_at "w"
      exact NR.sub (q r) (by walk_at "sub")

end

section
variable {P : Program} {w : World} {K : PySem.W.Frag} {mg : Str → Option Value} {base : Heap}
/-- a count below nought -/
def sp_raisedX (C : Addr) : Sp := fun vs H Q E => ∃ (v : V) (m : Int), vs = [v, .int m] ∧ m < 0 ∧ NE E (.ref C) none H []
theorem okX_raised (T : Txt P K mg base) : FnOk P w K mg base (L2.CX P w) 43 T.a_raised T.d_raised ["row", "many"] (sp_raisedX T.A_NoPower) := by
  refine T.F_raised.okX sc_raised (fun vs H Q E h => ?_) (fun cdv A outer s H vs Q E hr h => ?_)
  · obtain ⟨v, m, rfl, _⟩ := h; rfl
  · obtain ⟨v, m, rfl, hm, q⟩ := h
    refine ⟨_, (pss_cons (ps_if (pt_cmpR op_lt (pv 1) pe_int (nomark _)) (pss_one (ps_raise rfl (takes_of rfl rfl rfl rfl) (pmk_own PySem.F.excBase_ValueError T.e_NoPower.x T.e_NoPower.g T.e_NoPower.k (raises_own T.e_NoPower.b T.e_NoPower.t) (by rfl)))) pss_nil)
      pss_never), ?_⟩
    refine N.go (σ := [some v, some (.int m), none, none]) ?_
    walk_at "w"
    refine ⟨fun _ => ?_, fun hh => absurd hm (of_decide_eq_false hh)⟩
    exact fun H' k => q H' k
def sp_raisedA (C : Addr) : Sp := fun vs H Q E => sp_raised vs H Q E ∨ sp_raisedX C vs H Q E
theorem okA_raised (T : Txt P K mg base) : FnOk P w K mg base (L2.CX P w) 43 T.a_raised T.d_raised ["row", "many"] (sp_raisedA T.A_NoPower) := Pa.FnOk.both (ok_raised T) (okX_raised T)
theorem WCB_raisedA {C : Addr} {H0 : Hp} {fs : Fs} {Φ : CV} {Ψ : Value → Option Addr → Fs → Prop} {a : Addr} {xs : List Int} {c : Nat} (b : Nat) (h : Rx H0 fs a (.lst (zV xs))) (hc : c ≤ 100000) (hl : xs.length ≤ 4000) (hp : ∀ i, i ≤ c → (pw xs i).length ≤ 4000) (hb : BdL b xs) (hcb : 1 + (c + 1) * (b + 12) ≤ 134217728)
    (q : ∀ p, Φ (.ref p) ((p, .lst (zV (pw xs c))) :: fs)) : WCB (sp_raisedA C) [.ref a, .int (c : Int)] H0 fs Φ Ψ :=
  fun H k Q E cc _ => .inl ⟨a, xs, c, b, rfl, h H k, hc, hl, hp, hb, hcb, fun p H' k' => cc _ _ _ (k.app k') (q p)⟩
theorem WCX_raisedA {C : Addr} {H0 : Hp} {fs : Fs} {Ψ : Value → Option Addr → Fs → Prop} {v : V} {m : Int} (hm : m < 0) (q : Ψ (.ref C) none fs) : WCX (sp_raisedA C) [v, .int m] H0 fs Ψ :=
  fun H k Q E c => .inr ⟨v, m, rfl, hm, fun H' k' => c _ _ _ _ (k.app k') q⟩

end

section
variable {P : Program} {w : World} {K : PySem.W.Frag} {mg : Str → Option Value} {base : Heap}
def sp_slope : Sp := fun vs H Q _ => ∃ (a : Addr) (xs : List Int) (b : Nat), vs = [.ref a] ∧ H a = some (.lst (zV xs)) ∧ xs.length ≤ 90000 ∧ BdL b xs ∧ b ≤ 134217700 ∧ ∀ p, NR Q (.ref p) H [(p, .lst (zV (slp xs)))]
theorem WC_slope {H0 : Hp} {fs : Fs} {Φ : CV} {a : Addr} {xs : List Int} (b : Nat) (h : Rx H0 fs a (.lst (zV xs))) (hl : xs.length ≤ 90000) (hb : BdL b xs) (hbb : b ≤ 134217700) (q : ∀ p, Φ (.ref p) ((p, .lst (zV (slp xs))) :: fs)) : WC sp_slope [.ref a] H0 fs Φ :=
  fun H k Q E cc => ⟨a, xs, b, rfl, h H k, hl, hb, hbb, fun p H' k' => cc _ _ _ (k.app k') (q p)⟩
theorem ok_slope (T : Txt P K mg base) : FnOk P w K mg base CX0 41 T.a_slope T.d_slope ["row"] sp_slope := by
  refine T.F_slope.ok sc_slope (fun vs H Q E h => ?_) (fun cdv A outer s H vs Q E hr h => ?_)
  · obtain ⟨a, xs, b, rfl, _⟩ := h; rfl
  · obtain ⟨a, xs, b, rfl, hA, hl, hb, hbb, q⟩ := h
    refine ⟨_, (pss_one (ps_ret (pe_lc (own := [("k", 1)]) (g := gName 1) (tt := tYes) rfl sc_slope.nd (pi_range2 rfl T.z_range (pa_cons pe_int (pa_cons (pe_callB cLen (by rfl) T.z_len PySem.boot_len (pa_cons (pv 0) pa_nil)) pa_nil))) (blkOk_by (own := [("k", 1)]) (N := ["row", "k"]) (sc := defScope s_slope) (by decide +kernel)) (fun _ _ _ _ _ => pg_name (i := 1) sc_slope.nd rfl (Or.inl rfl)) (fun _ _ _ _ _ => pts_nil) (fun _ _ _ _ _ => (pe_op op_mulG (pv 1) (pe_ix (ix_listK (K := K) rfl) (pv 0) (pv 1) (fun _ _ => rfl))))))), ?_⟩
    refine N.go (σ := [some (.ref a), none]) ?_
    walk_at "w"
    refine W.lcR2z (lo := 1) (n := (xs.length : Int)) (fun (k : Nat) => (1 + (k : Int)) * gat xs (1 + (k : Int))) ?_
    walk_at "w"
    refine ⟨rfl, by omega, fun _ => rfl, fun i D acc hi => ?_, fun D => ?_⟩
    · walk_at "d"
      have hok : IntMulOk (1 + (i : Int)) (gat xs (1 + (i : Int))) := mulB (a := 17) (by omega) (hb.gat _) (by omega)
      walk_at "w"
      exact ⟨rfl, by walk_at "sub"⟩
    · walk_at "w"
      rw [slp_as]
      exact NR.sub (q D) (by walk_at "sub")

end

section
variable {P : Program} {w : World} {K : PySem.W.Frag} {mg : Str → Option Value} {base : Heap}
def sp_divided : Sp := fun vs H Q _ => ∃ (a b : Addr) (xs ys : List Int) (A B : Nat), vs = [.ref a, .ref b] ∧ H a = some (.lst (zV xs)) ∧ H b = some (.lst (zV ys)) ∧ (xs.length ≤ 40000 ∧ ys.length ≤ 40000) ∧ Tr ys ∧ ys ≠ [] ∧ BdL A xs ∧ BdL B ys ∧ A + (xs.length + 2 - ys.length) * (B + 1) + B + 1 ≤ 134217728 ∧
  ∀ (m : Int) (q r : List Int), Dv xs ys m q r → Bd ((xs.length + 1 - ys.length) * B + 1) m → BdL (A + (xs.length + 1 - ys.length) * (B + 1)) q → BdL (A + (xs.length + 1 - ys.length) * (B + 1)) r → q.length ≤ xs.length + 1 - ys.length → ∀ p1 p2 p, NR Q (.ref p) H [(p, .tup [.int m, .ref p1, .ref p2]), (p2, .lst (zV r)), (p1, .lst (zV q))]
theorem WC_divided {H0 : Hp} {fs : Fs} {Φ : CV} {a b : Addr} {xs ys : List Int} (A B : Nat) (h : Rx H0 fs a (.lst (zV xs))) (h2 : Rx H0 fs b (.lst (zV ys))) (hl : xs.length ≤ 40000 ∧ ys.length ≤ 40000) (ht : Tr ys) (hne : ys ≠ []) (hA : BdL A xs) (hB : BdL B ys) (hAB : A + (xs.length + 2 - ys.length) * (B + 1) + B + 1 ≤ 134217728)
    (c : ∀ (m : Int) (q r : List Int), Dv xs ys m q r → Bd ((xs.length + 1 - ys.length) * B + 1) m → BdL (A + (xs.length + 1 - ys.length) * (B + 1)) q → BdL (A + (xs.length + 1 - ys.length) * (B + 1)) r → q.length ≤ xs.length + 1 - ys.length → ∀ p1 p2 p, Φ (.ref p) ((p, .tup [.int m, .ref p1, .ref p2]) :: (p2, .lst (zV r)) :: (p1, .lst (zV q)) :: fs)) : WC sp_divided [.ref a, .ref b] H0 fs Φ :=
  fun H k Q E cc => ⟨a, b, xs, ys, A, B, rfl, h H k, h2 H k, hl, ht, hne, hA, hB, hAB, fun m q r d1 d2 d3 d4 d5 p1 p2 p H' k' => cc _ _ _ (k.app k') (c m q r d1 d2 d3 d4 d5 p1 p2 p)⟩
theorem ok_divided (T : Txt P K mg base) : FnOk P w K mg base CX0 42 T.a_divided T.d_divided ["row", "by"] sp_divided := by
  refine T.F_divided.ok sc_divided (fun vs H Q E h => ?_) (fun cdv A outer s H vs Q E hr h => ?_)
  · obtain ⟨a, b, xs, ys, A, B, rfl, _⟩ := h; rfl
  · obtain ⟨a, b, xs, ys, A, B, rfl, hXa, hXb, hl, ht, hne, hA, hB, hAB, c⟩ := h
    refine ⟨_, (pss_cons (ps_if (pt_cmpR (op_eqD hr.units) (pv 1) (pe_lst pa_nil) (nomark _)) (pss_one ps_never) pss_nil)
      (pss_cons (ps_set (i := 2) sc_divided.nd rfl (Or.inl rfl) pe_int)
      (pss_cons (ps_set (i := 3) sc_divided.nd rfl (Or.inl rfl) (pe_op op_rep (pe_lst (pa_cons pe_int pa_nil)) (pe_callB (cMax2 rfl) (by rfl) T.z_max (by decide +kernel) (pa_cons pe_int (pa_cons (pe_op op_add (pe_op op_sub (pe_callB cLen (by rfl) T.z_len PySem.boot_len (pa_cons (pv 0) pa_nil)) (pe_callB cLen (by rfl) T.z_len PySem.boot_len (pa_cons (pv 1) pa_nil))) pe_int) pa_nil)))))
      (pss_cons (ps_set (i := 4) sc_divided.nd rfl (Or.inl rfl) (pe_callTy cListOf (by rfl) T.z_list (by decide +kernel) (pa_cons (pv 0) pa_nil)))
      (pss_cons (ps_for PassesOwn.never rfl (pi_range1 rfl T.z_range (pa_cons (pe_callB cLen (by rfl) T.z_len PySem.boot_len (pa_cons (pv 3) pa_nil)) pa_nil)) (pg_name (i := 5) sc_divided.nd rfl (Or.inl rfl)) (pss_cons (ps_set (i := 6) sc_divided.nd rfl (Or.inl rfl) (pe_op op_sub (pe_op op_sub (pe_callB cLen (by rfl) T.z_len PySem.boot_len (pa_cons (pv 3) pa_nil)) pe_int) (pv 5)))
      (pss_cons (ps_set (i := 7) sc_divided.nd rfl (Or.inl rfl) (pe_ix ix_list (pv 4) (pe_op op_sub (pe_op op_add (pv 6) (pe_callB cLen (by rfl) T.z_len PySem.boot_len (pa_cons (pv 1) pa_nil))) pe_int) (fun _ _ => rfl)))
      (pss_one (ps_if (pt_cmpR op_ne (pv 7) pe_int (nomark _)) (pss_cons (ps_set (i := 8) sc_divided.nd rfl (Or.inr rfl) (pe_op (op_fdivP (Big.of T.seer hr (by decide) ⟨_, _, rfl, rfl, rfl, rfl, rfl⟩) T.tree) (pe_callB cAbs (by rfl) T.z_abs (by decide +kernel) (pa_cons (pe_ix ix_list (pv 1) (pe_un un_neg pe_int) (fun _ _ => rfl)) pa_nil)) (pe_call (ok_greatest T) (hr.mono (by decide)) (by rfl) T.m_greatest T.F_greatest.kp T.b_greatest .nil pass0 (pa_cons (pe_ix ix_list (pv 1) (pe_un un_neg pe_int) (fun _ _ => rfl)) (pa_cons (pv 7) pa_nil)))))
      (pss_cons (ps_set (i := 2) sc_divided.nd rfl (Or.inl rfl) (pe_op op_mulG (pv 2) (pv 8)))
      (pss_cons (ps_setLc (i := 3) (own := [("number", 10)]) (g := gName 10) (tt := tYes) rfl sc_divided.nd rfl rfl (sw_true rfl rfl rfl (by decide +kernel)) (pi_list (pv 3)) (blkOk_by (own := [("number", 10)]) (N := ["row", "by", "many", "found", "rest", "step", "place", "top", "more", "k", "number"]) (sc := defScope s_divided) (by decide +kernel)) (fun _ _ _ _ _ => pg_name (i := 10) sc_divided.nd rfl (Or.inl rfl)) (fun _ _ _ _ _ => pts_nil) (fun _ _ _ _ _ => (pe_op op_mulG (pv 8) (pv 10))))
      (pss_cons (ps_setLc (i := 4) (own := [("number", 10)]) (g := gName 10) (tt := tYes) rfl sc_divided.nd rfl rfl (sw_true rfl rfl rfl (by decide +kernel)) (pi_list (pv 4)) (blkOk_by (own := [("number", 10)]) (N := ["row", "by", "many", "found", "rest", "step", "place", "top", "more", "k", "number"]) (sc := defScope s_divided) (by decide +kernel)) (fun _ _ _ _ _ => pg_name (i := 10) sc_divided.nd rfl (Or.inl rfl)) (fun _ _ _ _ _ => pts_nil) (fun _ _ _ _ _ => (pe_op op_mulG (pv 8) (pv 10))))
      (pss_cons (ps_asg (pe_op (op_fdivP (Big.of T.seer hr (by decide) ⟨_, _, rfl, rfl, rfl, rfl, rfl⟩) T.tree) (pe_op op_mulG (pv 8) (pv 7)) (pe_ix ix_list (pv 1) (pe_un un_neg pe_int) (fun _ _ => rfl))) (pg_sub (pv 3) (pv 6) set_list))
      (pss_one (ps_for PassesOwn.never rfl (pi_range1 rfl T.z_range (pa_cons (pe_callB cLen (by rfl) T.z_len PySem.boot_len (pa_cons (pv 1) pa_nil)) pa_nil)) (pg_name (i := 9) sc_divided.nd rfl (Or.inl rfl)) (pss_one (ps_asg (pe_op op_sub (pe_ix ix_list (pv 4) (pe_op op_add (pv 6) (pv 9)) (fun _ _ => rfl)) (pe_op op_mulG (pe_ix ix_list (pv 3) (pv 6) (fun _ _ => rfl)) (pe_ix ix_list (pv 1) (pv 9) (fun _ _ => rfl)))) (pg_sub (pv 4) (pe_op op_add (pv 6) (pv 9)) set_list)))))))))) pss_nil)))))
      (pss_one (ps_ret (pe_tup (pa_cons (pv 2) (pa_cons (pe_call (ok_trimmed T) (hr.mono (by decide)) (by rfl) T.m_trimmed T.F_trimmed.kp T.b_trimmed .nil pass0 (pa_cons (pv 3) pa_nil)) (pa_cons (pe_call (ok_trimmed T) (hr.mono (by decide)) (by rfl) T.m_trimmed T.F_trimmed.kp T.b_trimmed .nil pass0 (pa_cons (pv 4) pa_nil)) pa_nil))))))))))), ?_⟩
    refine N.go (σ := [some (.ref a), some (.ref b), none, none, none, none, none, none, none, none, none]) ?_
    have hy : 0 < ys.length := List.length_pos_iff.mpr hne
    obtain ⟨n, hn⟩ : ∃ n, n = xs.length + 1 - ys.length := ⟨_, rfl⟩
    rw [← hn] at c
    have hlc : S ys (ys.length - 1) = ys.getLast hne := by
      rw [S_at, List.getD_eq_getElem?_getD, List.getElem?_eq_getElem (by omega), List.getLast_eq_getElem]; rfl
    have hlc0 : S ys (ys.length - 1) ≠ 0 := by rw [hlc]; exact tr_last ht hne
    have hlast : atI (zV ys) (-1) = some (.int (S ys (ys.length - 1))) := by rw [hlc]; exact atI_lastI hne
    have hlcb : Bd B (S ys (ys.length - 1)) := hB.at _
    walk_at "w"
    intro z
    walk_at "w"
    rw [decide_eq_false hne]
    walk_at "w"
    walk_at "d"
    walk_at "w"
    intro l0
    walk_at "w"
    refine RW.rep (x := 0) (by walk_at "rx") (by omega) fun pf => ?_
    have en : (max 0 ((xs.length : Int) - (ys.length : Int) + 1)).toNat = n := by omega
    rw [en]
    walk_at "d"
    walk_at "w"
    intro pr
    walk_at "d"
    refine N.sub [(pr, .lst (zV xs)), (pf, .lst (zV (List.replicate n 0)))] (by walk_at "sub") ?_
    refine S.forR (n := (n : Int)) (fun t σ f => ∃ m fl rl pf pr y5 y6 y7 y8 y9, σ = [some (.ref a), some (.ref b), some (.int m), some (.ref pf), some (.ref pr), y5, y6, y7, y8, y9, none] ∧ f = [(pr, .lst (zV rl)), (pf, .lst (zV fl))] ∧ t ≤ n ∧ DI xs ys A B n t m fl rl) ?_ ?_ ?_
    · walk_at "w"
      rw [List.length_replicate]
      exact ⟨rfl, by omega, by omega, 1, _, xs, pf, pr, none, none, none, none, none, rfl, rfl, Nat.zero_le _, DI.start hn hA⟩
    · rintro t σ f ht' ⟨m, fl, rl, pf, pr, y5, y6, y7, y8, y9, rfl, rfl, _, hD⟩
      have htn : t < n := by omega
      have hfl := hD.fl
      have hrl := hD.rl
      have htB : t * (B + 1) ≤ n * (B + 1) := Nat.mul_le_mul_right _ (by omega)
      have htB2 : t * B ≤ t * (B + 1) := Nat.mul_le_mul_left _ (by omega)
      have hn2 : (xs.length + 2 - ys.length) * (B + 1) = n * (B + 1) + (B + 1) := by
        rw [show xs.length + 2 - ys.length = n + 1 by omega, Nat.succ_mul]
      rw [hn2] at hAB
      walk_at "d"
      walk_at "w"
      have eP : (fl.length : Int) - 1 - (t : Int) = ((n - 1 - t : Nat) : Int) := by omega
      rw [eP]
      walk_at "d"
      walk_at "w"
      have eT : gat rl (((n - 1 - t : Nat) : Int) + (ys.length : Int) - 1) = S rl (n - 1 - t + ys.length - 1) := by
        rw [show ((n - 1 - t : Nat) : Int) + (ys.length : Int) - 1 = ((n - 1 - t + ys.length - 1 : Nat) : Int) by omega, gat_nat]; rfl
      rw [eT]
      walk_at "d"
      walk_at "w"
      walk_at "if"
      · rename_i htop
        have hD' := hD.step htn hn hy hB hlc0 htop
        obtain ⟨s1, s2, s3, s4, s5⟩ := step_facts hlc0 htop
        have htb : (S rl (n - 1 - t + ys.length - 1)).natAbs < 2 ^ (A + t * (B + 1)) := hD.rb.at _
        have hg0 : 0 < Nat.gcd (S ys (ys.length - 1)).natAbs (S rl (n - 1 - t + ys.length - 1)).natAbs := Nat.gcd_pos_of_pos_left _ (Int.natAbs_pos.mpr hlc0)
        have hdv : CDivP ((S ys (ys.length - 1)).natAbs : Int) ((Nat.gcd (S ys (ys.length - 1)).natAbs (S rl (n - 1 - t + ys.length - 1)).natAbs : Nat) : Int) := by
          show ((Nat.gcd (S ys (ys.length - 1)).natAbs (S rl (n - 1 - t + ys.length - 1)).natAbs : Nat) : Int) ≠ 0
          omega
        have hdv2 : CDivP (more (S ys (ys.length - 1)) (S rl (n - 1 - t + ys.length - 1)) * S rl (n - 1 - t + ys.length - 1)) (S ys (ys.length - 1)) := hlc0
        walk_at "w"
        refine RW.ixL (by walk_at "rl") hlast ?_
        walk_at "w"
        refine RW.ixL (by walk_at "rl") hlast ?_
        walk_at "w"
        refine WC_greatest ?_
        walk_at "w"
        rw [show ((S ys (ys.length - 1)).natAbs : Int).fdiv (Nat.gcd (S ys (ys.length - 1)).natAbs (S rl (n - 1 - t + ys.length - 1)).natAbs : Nat) = more (S ys (ys.length - 1)) (S rl (n - 1 - t + ys.length - 1)) from rfl]
        obtain ⟨top, hto⟩ : ∃ x, x = S rl (n - 1 - t + ys.length - 1) := ⟨_, rfl⟩
        obtain ⟨lc, hlcd⟩ : ∃ x, x = S ys (ys.length - 1) := ⟨_, rfl⟩
        rw [← hto, ← hlcd] at hD' s1 s2 s3 s4 s5 hdv2 ⊢
        rw [← hto] at htb
        rw [← hlcd] at hlast hlcb hlc0
        obtain ⟨v, hv⟩ : ∃ v, v = putv lc top := ⟨_, rfl⟩
        rw [← hv] at hD' s3 s4 s5
        obtain ⟨mo, hmo⟩ : ∃ mo, mo = more lc top := ⟨_, rfl⟩
        rw [← hmo] at hD' s1 s2 s3 s5 hdv2 ⊢
        have hv2 : (mo * top).fdiv lc = v := by rw [hv, hmo]; rfl
        have hmob : Bd B mo := Nat.lt_of_le_of_lt s2 hlcb
        have hvb : Bd (A + t * (B + 1)) v := Nat.lt_of_le_of_lt s4 htb
        have hok1 : IntMulOk m mo := mulB hD.mb hmob (by omega)
        have hok3 : IntMulOk mo top := mulB hmob htb (by omega)
        walk_at "w"
        walk_at "d"
        refine W.lcZz (ns := fl) (fun x => mo * x) ?_
        walk_at "w"
        refine ⟨by walk_at "rl", by omega, fun _ => rfl, fun x D acc hx => ?_, fun D1 => ?_⟩
        · walk_at "d"
          have hok : IntMulOk mo x := mulB hmob (hD.fb x hx) (by omega)
          walk_at "w"
          exact ⟨rfl, by walk_at "sub"⟩
        walk_at "d"
        walk_at "w"
        refine W.lcZz (ns := rl) (fun x => mo * x) ?_
        walk_at "w"
        refine ⟨by walk_at "rl", by omega, fun _ => rfl, fun x D acc hx => ?_, fun D2 => ?_⟩
        · walk_at "d"
          have hok : IntMulOk mo x := mulB hmob (hD.rb x hx) (by omega)
          walk_at "w"
          exact ⟨rfl, by walk_at "sub"⟩
        walk_at "d"
        walk_at "w"
        refine S.setL ?_
        walk_at "w"
        refine RW.ixL (by walk_at "rl") hlast ?_
        walk_at "w"
        rw [hv2]
        walk_at "w"
        walk_at "set1"
        · rw [zV_length, List.length_map]; omega
        have eP2 : (((n - 1 - t : Nat) : Int)).toNat = n - 1 - t := by omega
        rw [eP2, zV_set]
        walk_at "d"
        generalize hF : (fl.map fun x => mo * x).set (n - 1 - t) v = fl' at hD'
        have hfl' : fl'.length = n := hD'.fl
        have hfv : gat fl' ((n - 1 - t : Nat) : Int) = v := by
          rw [gat_nat, ← hF, getD_set, if_pos rfl, if_pos (by rw [List.length_map]; omega)]
        generalize hR : (rl.map fun x => mo * x) = rl0 at hD'
        have hrl0 : rl0.length = xs.length := by rw [← hR, List.length_map]; exact hrl
        refine N.sub [(D2, .lst (zV rl0)), (D1, .lst (zV fl'))] (by walk_at "sub") ?_
        refine S.forR (n := (ys.length : Int)) (fun k σ f => ∃ y, σ = [some (.ref a), some (.ref b), some (.int (m * mo)), some (.ref D1), some (.ref D2), some (.int (t : Int)), some (.int ((n - 1 - t : Nat) : Int)), some (.int top), some (.int mo), y, none] ∧ f = [(D2, .lst (zV (lp (sbIn v ys (n - 1 - t)) k rl0))), (D1, .lst (zV fl'))]) ?_ ?_ ?_
        · walk_at "w"
          exact ⟨rfl, by omega, by omega, y9, rfl, rfl⟩
        · rintro k σ f hk ⟨y, rfl, rfl⟩
          walk_at "d"
          have hlen : (lp (sbIn v ys (n - 1 - t)) k rl0).length = xs.length := by
            rw [sbIn_eq, lp_len (fun i a => tmIn_len _ _ _ _ _)]; exact hrl0
          have hok : IntMulOk v (gat ys (k : Int)) := mulB hvb (hB.gat _) (by omega)
          refine S.setL ?_
          walk_at "w"
          rw [hfv]
          walk_at "w"
          walk_at "set1"
          · rw [zV_length, hlen]; omega
          have ei : (((n - 1 - t : Nat) : Int) + (k : Int)) = ((n - 1 - t + k : Nat) : Int) := by omega
          have e1 : (((n - 1 - t : Nat) : Int) + (k : Int)).toNat = n - 1 - t + k := by omega
          rw [e1, zV_set, ei, gat_nat, gat_nat]
          walk_at "d"
          walk_at "lp"
          exact ⟨_, rfl, rfl⟩
        · rintro σ f ⟨y, rfl, rfl⟩
          have ek : ((ys.length : Int)).toNat = ys.length := by simp
          rw [ek]
          walk_at "lp"
          exact ⟨m * mo, fl', _, D1, D2, _, _, _, _, _, rfl, rfl, htn, hD'⟩
      · rename_i htop
        walk_at "w"
        walk_at "lp"
        exact ⟨m, fl, rl, pf, pr, _, _, _, _, _, rfl, rfl, htn, hD.skip htn hy htop⟩
    · rintro σ f ⟨m, fl, rl, pf, pr, y5, y6, y7, y8, y9, rfl, rfl, _, hD⟩
      have ek : ((n : Int)).toNat = n := by simp
      rw [ek] at hD
      have hD' := hD.dv hy
      have hfl := hD.fl
      have hrl := hD.rl
      walk_at "w"
      refine WC_trimmed (xs := fl) (by walk_at "rx") (by omega) fun p1 => ?_
      walk_at "w"
      refine WC_trimmed (xs := rl) (by walk_at "rx") (by omega) fun p2 => ?_
      walk_at "w"
      refine ⟨by simp, fun p => ?_⟩
      exact NR.sub (c m (trim fl) (trim rl) hD' hD.mb hD.fb.trim hD.rb.trim (Nat.le_trans (trim_length_le _) (by omega)) p1 p2 p) (by walk_at "sub")

end

section
variable {P : Program} {w : World} {K : PySem.W.Frag} {mg : Str → Option Value} {base : Heap}
def sp_quotient : Sp := fun vs H Q _ => ∃ (a b : Addr) (xs ys q : List Int) (A B : Nat), vs = [.ref a, .ref b] ∧ H a = some (.lst (zV xs)) ∧ H b = some (.lst (zV ys)) ∧ (xs.length ≤ 40000 ∧ ys.length ≤ 40000) ∧ Tr ys ∧ ys ≠ [] ∧ BdL A xs ∧ BdL B ys ∧ A + (xs.length + 2 - ys.length) * (B + 1) + B + 1 ≤ 134217728 ∧
  Whole xs ys q ∧ (BdL (A + (xs.length + 1 - ys.length) * (B + 1)) q → ∀ p, NR Q (.ref p) H [(p, .lst (zV q))])
theorem WC_quotient {H0 : Hp} {fs : Fs} {Φ : CV} {a b : Addr} {xs ys : List Int} (q : List Int) (A B : Nat) (h : Rx H0 fs a (.lst (zV xs))) (h2 : Rx H0 fs b (.lst (zV ys))) (hl : xs.length ≤ 40000 ∧ ys.length ≤ 40000) (ht : Tr ys) (hne : ys ≠ []) (hA : BdL A xs) (hB : BdL B ys) (hAB : A + (xs.length + 2 - ys.length) * (B + 1) + B + 1 ≤ 134217728)
    (hw : Whole xs ys q) (c : BdL (A + (xs.length + 1 - ys.length) * (B + 1)) q → ∀ p, Φ (.ref p) ((p, .lst (zV q)) :: fs)) : WC sp_quotient [.ref a, .ref b] H0 fs Φ :=
  fun H k Q E cc => ⟨a, b, xs, ys, q, A, B, rfl, h H k, h2 H k, hl, ht, hne, hA, hB, hAB, hw, fun hb p H' k' => cc _ _ _ (k.app k') (c hb p)⟩
theorem ok_quotient (T : Txt P K mg base) : FnOk P w K mg base CX0 43 T.a_quotient T.d_quotient ["row", "by"] sp_quotient := by
  refine T.F_quotient.ok sc_quotient (fun vs H Q E h => ?_) (fun cdv A outer s H vs Q E hr h => ?_)
  · obtain ⟨a, b, xs, ys, q, A, B, rfl, _⟩ := h; rfl
  · obtain ⟨a, b, xs, ys, q, A, B, rfl, hXa, hXb, hl, ht, hne, hA, hB, hAB, hw, c⟩ := h
    refine ⟨_, (pss_cons (ps_set (i := 2) sc_quotient.nd rfl (Or.inl rfl) (pe_call (ok_divided T) (hr.mono (by decide)) (by rfl) T.m_divided T.F_divided.kp T.b_divided .nil pass0 (pa_cons (pv 0) (pa_cons (pv 1) pa_nil))))
      (pss_cons (ps_if (PW.pt (pw_or (pt_cmpR op_ne (pe_ix ix_tup (pv 2) pe_int (fun _ _ => rfl)) pe_int (nomark _)) (pw_or1 (pt_cmpR (op_neD hr.units) (pe_ix ix_tup (pv 2) pe_int (fun _ _ => rfl)) (pe_lst pa_nil) (nomark _))))) (pss_one ps_never) pss_nil)
      (pss_one (ps_ret (pe_ix ix_tup (pv 2) pe_int (fun _ _ => rfl)))))), ?_⟩
    refine N.go (σ := [some (.ref a), some (.ref b), none]) ?_
    walk_at "w"
    refine WC_divided (xs := xs) (ys := ys) A B (by walk_at "rx") (by walk_at "rx") hl ht hne hA hB hAB fun m qq r hd b1 b2 b3 ql p1 p2 p => ?_
    obtain ⟨e1, e2, e3⟩ := hd.whole ht hne hw
    subst e1 e2 e3
    walk_at "d"
    walk_at "w"
    intro z
    walk_at "w"
    exact NR.sub (c b2 p1) (by walk_at "sub")

end

section
variable {P : Program} {w : World} {K : PySem.W.Frag} {mg : Str → Option Value} {base : Heap}
def sp_shared : Sp := fun vs H Q _ => ∃ (r a b : Addr) (xs ys : List Int) (m : Int), vs = [.ref r, .ref a, .ref b, .int m] ∧ H a = some (.lst (zV xs)) ∧ H b = some (.lst (zV ys)) ∧ (xs.length ≤ 40000 ∧ ys.length ≤ 40000) ∧ 1 ≤ m ∧
  ∀ p1 p2 p, NR Q (.ref p) H [(p, .tup [.ref r, .ref p1, .ref p2, .int (m.fdiv (shBy xs ys m))]), (p2, .lst (zV (divBy ys (shBy xs ys m)))), (p1, .lst (zV (divBy xs (shBy xs ys m))))]
theorem WC_shared {H0 : Hp} {fs : Fs} {Φ : CV} {r a b : Addr} {xs ys : List Int} {m : Int} (h : Rx H0 fs a (.lst (zV xs))) (h2 : Rx H0 fs b (.lst (zV ys))) (hl : xs.length ≤ 40000 ∧ ys.length ≤ 40000) (hm : 1 ≤ m)
    (c : ∀ p1 p2 p, Φ (.ref p) ((p, .tup [.ref r, .ref p1, .ref p2, .int (m.fdiv (shBy xs ys m))]) :: (p2, .lst (zV (divBy ys (shBy xs ys m)))) :: (p1, .lst (zV (divBy xs (shBy xs ys m)))) :: fs)) : WC sp_shared [.ref r, .ref a, .ref b, .int m] H0 fs Φ :=
  fun H k Q E cc => ⟨r, a, b, xs, ys, m, rfl, h H k, h2 H k, hl, hm, fun p1 p2 p H' k' => cc _ _ _ (k.app k') (c p1 p2 p)⟩
theorem ok_shared (T : Txt P K mg base) : FnOk P w K mg base CX0 43 T.a_shared T.d_shared ["row", "ones", "others", "many"] sp_shared := by
  refine T.F_shared.ok sc_shared (fun vs H Q E h => ?_) (fun cdv A outer s H vs Q E hr h => ?_)
  · obtain ⟨r, a, b, xs, ys, m, rfl, _⟩ := h; rfl
  · obtain ⟨r, a, b, xs, ys, m, rfl, hA, hB, hl, hm, c⟩ := h
    refine ⟨_, (pss_cons (ps_set (i := 4) sc_shared.nd rfl (Or.inr rfl) (pe_call (ok_greatest T) (hr.mono (by decide)) (by rfl) T.m_greatest T.F_greatest.kp T.b_greatest .nil pass0 (pa_cons (pv 3) (pa_cons (pe_call (ok_greatest T) (hr.mono (by decide)) (by rfl) T.m_greatest T.F_greatest.kp T.b_greatest .nil pass0 (pa_cons (pe_call (ok_content T) (hr.mono (by decide)) (by rfl) T.m_content T.F_content.kp T.b_content .nil pass0 (pa_cons (pv 1) pa_nil)) (pa_cons (pe_call (ok_content T) (hr.mono (by decide)) (by rfl) T.m_content T.F_content.kp T.b_content .nil pass0 (pa_cons (pv 2) pa_nil)) pa_nil))) pa_nil))))
      (pss_one (ps_ret (pe_tup (pa_cons (pv 0) (pa_cons (pe_lc (own := [("number", 5)]) (g := gName 5) (tt := tYes) rfl sc_shared.nd (pi_list (pv 1)) (blkOk_by (own := [("number", 5)]) (N := ["row", "ones", "others", "many", "by", "number"]) (sc := defScope s_shared) (by decide +kernel)) (fun _ _ _ _ _ => pg_name (i := 5) sc_shared.nd rfl (Or.inl rfl)) (fun _ _ _ _ _ => pts_nil) (fun _ _ _ _ _ => (pe_op (op_fdivP (Big.of T.seer hr (by decide) ⟨_, _, rfl, rfl, rfl, rfl, rfl⟩) T.tree) (pv 5) (pv 4)))) (pa_cons (pe_lc (own := [("number", 5)]) (g := gName 5) (tt := tYes) rfl sc_shared.nd (pi_list (pv 2)) (blkOk_by (own := [("number", 5)]) (N := ["row", "ones", "others", "many", "by", "number"]) (sc := defScope s_shared) (by decide +kernel)) (fun _ _ _ _ _ => pg_name (i := 5) sc_shared.nd rfl (Or.inl rfl)) (fun _ _ _ _ _ => pts_nil) (fun _ _ _ _ _ => (pe_op (op_fdivP (Big.of T.seer hr (by decide) ⟨_, _, rfl, rfl, rfl, rfl, rfl⟩) T.tree) (pv 5) (pv 4)))) (pa_cons (pe_op (op_fdivP (Big.of T.seer hr (by decide) ⟨_, _, rfl, rfl, rfl, rfl, rfl⟩) T.tree) (pv 3) (pv 4)) pa_nil)))))))), ?_⟩
    refine N.go (σ := [some (.ref r), some (.ref a), some (.ref b), some (.int m), none, none]) ?_
    have hby : CDivP m (shBy xs ys m) := shBy_ne hm
    walk_at "w"
    refine WC_content (xs := xs) (by walk_at "rx") ?_
    walk_at "w"
    refine WC_content (xs := ys) (by walk_at "rx") ?_
    walk_at "w"
    refine WC_greatest ?_
    walk_at "w"
    refine WC_greatest ?_
    simp only [Int.natAbs_natCast]
    rw [show ((Nat.gcd m.natAbs (Nat.gcd (cont xs) (cont ys)) : Nat) : Int) = shBy xs ys m from rfl]
    walk_at "d"
    walk_at "w"
    refine W.lcZz (ns := xs) (fun x => x.fdiv (shBy xs ys m)) ?_
    walk_at "w"
    refine ⟨by walk_at "rl", by omega, fun _ => rfl, fun x D acc hx => ?_, fun D1 => ?_⟩
    · walk_at "d"
      have hcx : CDivP x (shBy xs ys m) := shBy_ne hm
      walk_at "w"
      exact ⟨rfl, by walk_at "sub"⟩
    walk_at "w"
    refine W.lcZz (ns := ys) (fun x => x.fdiv (shBy xs ys m)) ?_
    walk_at "w"
    refine ⟨by walk_at "rl", by omega, fun _ => rfl, fun x D acc hx => ?_, fun D2 => ?_⟩
    · walk_at "d"
      have hcx : CDivP x (shBy xs ys m) := shBy_ne hm
      walk_at "w"
      exact ⟨rfl, by walk_at "sub"⟩
    walk_at "w"
    refine ⟨by simp, fun p => ?_⟩
    exact NR.sub (c D1 D2 p) (by walk_at "sub")

end

section
variable {P : Program} {w : World} {K : PySem.W.Frag} {mg : Str → Option Value} {base : Heap}
def sp_begun : Sp := fun vs H Q _ => ∃ (r : Addr) (b : Bool) (xs : List Int), vs = [.ref r, .bl b] ∧ H r = some (.lst (zV xs)) ∧ xs.length ≤ 40000 ∧ Tr xs ∧
  ∀ p1 p2 p3 p, NR Q (.ref p) H [(p, .tup [.ref p1, .ref p2, .ref p3, .int (bgN xs)]), (p3, .lst (zV (bgU (!b) xs))), (p2, .lst (zV (bgU b xs))), (p1, .lst (zV (simp' xs)))]
theorem WC_begun {H0 : Hp} {fs : Fs} {Φ : CV} {r : Addr} {b : Bool} {xs : List Int} (h : Rx H0 fs r (.lst (zV xs))) (hl : xs.length ≤ 40000) (ht : Tr xs)
    (c : ∀ p1 p2 p3 p, Φ (.ref p) ((p, .tup [.ref p1, .ref p2, .ref p3, .int (bgN xs)]) :: (p3, .lst (zV (bgU (!b) xs))) :: (p2, .lst (zV (bgU b xs))) :: (p1, .lst (zV (simp' xs))) :: fs)) : WC sp_begun [.ref r, .bl b] H0 fs Φ :=
  fun H k Q E cc => ⟨r, b, xs, rfl, h H k, hl, ht, fun p1 p2 p3 p H' k' => cc _ _ _ (k.app k') (c p1 p2 p3 p)⟩
theorem ok_begun (T : Txt P K mg base) : FnOk P w K mg base CX0 45 T.a_begun T.d_begun ["row", "first"] sp_begun := by
  refine T.F_begun.ok sc_begun (fun vs H Q E h => ?_) (fun cdv A outer s H vs Q E hr h => ?_)
  · obtain ⟨r, b, xs, rfl, _⟩ := h; rfl
  · obtain ⟨r, b, xs, rfl, hA, hl, ht, c⟩ := h
    refine ⟨_, (pss_cons (ps_if (pt_cmpR (op_eqD hr.units) (pv 0) (pe_lst pa_nil) (nomark _)) (pss_one (ps_ret (pe_tup (pa_cons (pe_lst pa_nil) (pa_cons (pe_lst pa_nil) (pa_cons (pe_lst pa_nil) (pa_cons pe_int pa_nil))))))) pss_nil)
      (pss_cons (ps_set (i := 2) sc_begun.nd rfl (Or.inl rfl) (pe_call (ok_signed_content T) (hr.mono (by decide)) (by rfl) T.m_signed_content T.F_signed_content.kp T.b_signed_content .nil pass0 (pa_cons (pv 0) pa_nil)))
      (pss_cons (ps_set (i := 3) sc_begun.nd rfl (Or.inl rfl) (pe_lst (pa_cons (pe_op (op_fdivP (Big.of T.seer hr (by decide) ⟨_, _, rfl, rfl, rfl, rfl, rfl⟩) T.tree) (pv 2) (pe_callB cAbs (by rfl) T.z_abs (by decide +kernel) (pa_cons (pv 2) pa_nil))) pa_nil)))
      (pss_cons (ps_if (pt_val (pv 1)) (pss_one (ps_ret (pe_tup (pa_cons (pe_call (ok_simple T) (hr.mono (by decide)) (by rfl) T.m_simple T.F_simple.kp T.b_simple .nil pass0 (pa_cons (pv 0) pa_nil)) (pa_cons (pv 3) (pa_cons (pe_lst pa_nil) (pa_cons (pe_callB cAbs (by rfl) T.z_abs (by decide +kernel) (pa_cons (pv 2) pa_nil)) pa_nil))))))) pss_nil)
      (pss_one (ps_ret (pe_tup (pa_cons (pe_call (ok_simple T) (hr.mono (by decide)) (by rfl) T.m_simple T.F_simple.kp T.b_simple .nil pass0 (pa_cons (pv 0) pa_nil)) (pa_cons (pe_lst pa_nil) (pa_cons (pv 3) (pa_cons (pe_callB cAbs (by rfl) T.z_abs (by decide +kernel) (pa_cons (pv 2) pa_nil)) pa_nil))))))))))), ?_⟩
    refine N.go (σ := [some (.ref r), some (.bl b), none, none]) ?_
    walk_at "w"
    intro z
    walk_at "w"
    by_cases hne : xs = []
    · subst hne
      walk_at "w"
      intro q1
      walk_at "w"
      intro q2
      walk_at "w"
      intro q3
      walk_at "w"
      refine ⟨by simp, fun p => ?_⟩
      have hc := c q1 q2 q3 p
      unfold bgU bgN at hc
      rw [if_pos rfl, if_pos rfl, if_pos rfl] at hc
      exact NR.sub hc (by walk_at "sub")
    · rw [decide_eq_false hne]
      have hs0 := sgc_ne ht hne
      have hdv : CDivP (sgc xs) ((sgc xs).natAbs : Int) := by
        show ((sgc xs).natAbs : Int) ≠ 0
        omega
      walk_at "w"
      refine WC_signed_content (xs := xs) (by walk_at "rx") ?_
      walk_at "d"
      walk_at "w"
      rw [sgn_fdiv hs0]
      intro sgp
      rw [show (if sgc xs < 0 then (-1 : Int) else 1) = sgnc xs from rfl]
      walk_at "d"
      have en : ((sgc xs).natAbs : Int) = bgN xs := by unfold bgN; rw [if_neg hne, sgc_abs]
      have eu1 : bgU true xs = [sgnc xs] := by unfold bgU; rw [if_neg hne, if_pos rfl]
      have eu2 : bgU false xs = [] := by unfold bgU; rw [if_neg hne, if_neg (by decide)]
      cases b with
      | true =>
        walk_at "w"
        refine WC_simple (xs := xs) (by walk_at "rx") (by omega) ht fun q1 => ?_
        walk_at "w"
        intro q3
        walk_at "w"
        refine ⟨by simp, fun p => ?_⟩
        have hc := c q1 sgp q3 p
        rw [show (!true) = false from rfl, eu1, eu2, ← en] at hc
        have hc2 : NR Q (.ref p) H [(p, .tup [.ref q1, .ref sgp, .ref q3, .int ((sgc xs).natAbs : Int)]), (q3, .lst (zV [])), (q1, .lst (zV (simp' xs))), (sgp, .lst (zV [sgnc xs]))] := NR.perm (.cons _ (.cons _ (.swap _ _ _))) hc
        exact NR.sub hc2 (by walk_at "sub")
      | false =>
        walk_at "w"
        refine WC_simple (xs := xs) (by walk_at "rx") (by omega) ht fun q1 => ?_
        walk_at "w"
        intro q3
        walk_at "w"
        refine ⟨by simp, fun p => ?_⟩
        have hc := c q1 q3 sgp p
        rw [show (!false) = true from rfl, eu1, eu2, ← en] at hc
        have hc2 : NR Q (.ref p) H [(p, .tup [.ref q1, .ref q3, .ref sgp, .int ((sgc xs).natAbs : Int)]), (q3, .lst (zV [])), (q1, .lst (zV (simp' xs))), (sgp, .lst (zV [sgnc xs]))] := by
          refine NR.perm (.cons _ ?_) hc
          exact .trans (.cons _ (.swap _ _ _)) (.swap _ _ _)
        exact NR.sub hc2 (by walk_at "sub")

end

section
variable {P : Program} {w : World} {K : PySem.W.Frag} {mg : Str → Option Value} {base : Heap}
def sp_behind : Sp := fun vs H Q _ => ∃ (ph pt a1 a2 a3 b1 b2 b3 : Addr) (x u v x2 u2 v2 : List Int) (n n2 : Int) (A1 A2 c1 c2 d1 d2 : Nat), vs = [.ref ph, .ref pt] ∧
  H ph = some (.tup [.ref a1, .ref a2, .ref a3, .int n]) ∧ H a1 = some (.lst (zV x)) ∧ H a2 = some (.lst (zV u)) ∧ H a3 = some (.lst (zV v)) ∧
  H pt = some (.tup [.ref b1, .ref b2, .ref b3, .int n2]) ∧ H b1 = some (.lst (zV x2)) ∧ H b2 = some (.lst (zV u2)) ∧ H b3 = some (.lst (zV v2)) ∧
  BhB x.length x2.length A1 A2 c1 c2 d1 d2 ∧ (u.length ≤ 9000 ∧ v.length ≤ 9000 ∧ u2.length ≤ 9000 ∧ v2.length ≤ 9000) ∧ Tr x2 ∧ x2 ≠ [] ∧ (1 ≤ n ∧ 1 ≤ n2) ∧
  (BdL A1 x ∧ BdL A2 x2 ∧ BdL c1 u ∧ BdL c1 v ∧ BdL c2 u2 ∧ BdL c2 v2 ∧ Bd d1 n ∧ Bd d2 n2) ∧
  ∀ (m : Int) (q r x' u' v' : List Int) (n' : Int), Dv x x2 m q r → Bd ((x.length + 1 - x2.length) * A2 + 1) m → BdL (A1 + (x.length + 1 - x2.length) * (A2 + 1)) q → BdL (A1 + (x.length + 1 - x2.length) * (A2 + 1)) r → q.length ≤ x.length + 1 - x2.length →
    Bh x u v x2 u2 v2 n n2 m q r x' u' v' n' → ∀ p1 p2 p3 p, NR Q (.ref p) H [(p, .tup [.ref p1, .ref p2, .ref p3, .int n']), (p3, .lst (zV v')), (p2, .lst (zV u')), (p1, .lst (zV x'))]
theorem WC_behind {H0 : Hp} {fs : Fs} {Φ : CV} {ph pt a1 a2 a3 b1 b2 b3 : Addr} {x u v x2 u2 v2 : List Int} {n n2 : Int} (A1 A2 c1 c2 d1 d2 : Nat)
    (hph : Rx H0 fs ph (.tup [.ref a1, .ref a2, .ref a3, .int n])) (ha1 : Rx H0 fs a1 (.lst (zV x))) (ha2 : Rx H0 fs a2 (.lst (zV u))) (ha3 : Rx H0 fs a3 (.lst (zV v)))
    (hpt : Rx H0 fs pt (.tup [.ref b1, .ref b2, .ref b3, .int n2])) (hb1 : Rx H0 fs b1 (.lst (zV x2))) (hb2 : Rx H0 fs b2 (.lst (zV u2))) (hb3 : Rx H0 fs b3 (.lst (zV v2)))
    (hB : BhB x.length x2.length A1 A2 c1 c2 d1 d2) (hl : u.length ≤ 9000 ∧ v.length ≤ 9000 ∧ u2.length ≤ 9000 ∧ v2.length ≤ 9000) (ht : Tr x2) (hne : x2 ≠ []) (hn : 1 ≤ n ∧ 1 ≤ n2)
    (hb : BdL A1 x ∧ BdL A2 x2 ∧ BdL c1 u ∧ BdL c1 v ∧ BdL c2 u2 ∧ BdL c2 v2 ∧ Bd d1 n ∧ Bd d2 n2)
    (c : ∀ (m : Int) (q r x' u' v' : List Int) (n' : Int), Dv x x2 m q r → Bd ((x.length + 1 - x2.length) * A2 + 1) m → BdL (nA x.length x2.length A1 A2) q → BdL (nA x.length x2.length A1 A2) r → q.length ≤ x.length + 1 - x2.length →
      Bh x u v x2 u2 v2 n n2 m q r x' u' v' n' → ∀ p1 p2 p3 p, Φ (.ref p) ((p, .tup [.ref p1, .ref p2, .ref p3, .int n']) :: (p3, .lst (zV v')) :: (p2, .lst (zV u')) :: (p1, .lst (zV x')) :: fs)) : WC sp_behind [.ref ph, .ref pt] H0 fs Φ :=
  fun H k Q E cc => ⟨ph, pt, a1, a2, a3, b1, b2, b3, x, u, v, x2, u2, v2, n, n2, A1, A2, c1, c2, d1, d2, rfl, hph H k, ha1 H k, ha2 H k, ha3 H k, hpt H k, hb1 H k, hb2 H k, hb3 H k, hB, hl, ht, hne, hn, hb,
    fun m q r x' u' v' n' e1 e2 e3 e4 e5 e6 p1 p2 p3 p H' k' => cc _ _ _ (k.app k') (c m q r x' u' v' n' e1 e2 e3 e4 e5 e6 p1 p2 p3 p)⟩
theorem ok_behind (T : Txt P K mg base) : FnOk P w K mg base CX0 45 T.a_behind T.d_behind ["here", "there"] sp_behind := by
  refine T.F_behind.ok sc_behind (fun vs H Q E h => ?_) (fun cdv A outer s H vs Q E hr h => ?_)
  · obtain ⟨ph, pt, a1, a2, a3, b1, b2, b3, x, u, v, x2, u2, v2, n, n2, A1, A2, c1, c2, d1, d2, rfl, _⟩ := h; rfl
  · obtain ⟨ph, pt, a1, a2, a3, b1, b2, b3, x, u, v, x2, u2, v2, n, n2, A1, A2, c1, c2, d1, d2, rfl, hph, ha1, ha2, ha3, hpt, hb1, hb2, hb3, hB, hl, ht, hne, hn, hb, c⟩ := h
    obtain ⟨hx, hx2, hu, hv, hu2, hv2, hdn, hdn2⟩ := hb
    obtain ⟨hL, B1, B2, B3, B4⟩ := hB
    refine ⟨_, (pss_cons (ps_set (i := 2) sc_behind.nd rfl (Or.inl rfl) (pe_call (ok_divided T) (hr.mono (by decide)) (by rfl) T.m_divided T.F_divided.kp T.b_divided .nil pass0 (pa_cons (pe_ix ix_tup (pv 0) pe_int (fun _ _ => rfl)) (pa_cons (pe_ix ix_tup (pv 1) pe_int (fun _ _ => rfl)) pa_nil))))
      (pss_cons (ps_set (i := 3) sc_behind.nd rfl (Or.inl rfl) (pe_ix ix_tup (pv 2) pe_int (fun _ _ => rfl)))
      (pss_cons (ps_if (pt_cmpR (op_eqD hr.units) (pv 3) (pe_lst pa_nil) (nomark _)) (pss_one (ps_ret (pe_tup (pa_cons (pe_lst pa_nil) (pa_cons (pe_lst pa_nil) (pa_cons (pe_lst pa_nil) (pa_cons pe_int pa_nil))))))) pss_nil)
      (pss_cons (ps_set (i := 4) sc_behind.nd rfl (Or.inl rfl) (pe_call (ok_signed_content T) (hr.mono (by decide)) (by rfl) T.m_signed_content T.F_signed_content.kp T.b_signed_content .nil pass0 (pa_cons (pv 3) pa_nil)))
      (pss_cons (ps_set (i := 5) sc_behind.nd rfl (Or.inl rfl) (pe_op (op_fdivP (Big.of T.seer hr (by decide) ⟨_, _, rfl, rfl, rfl, rfl, rfl⟩) T.tree) (pv 4) (pe_callB cAbs (by rfl) T.z_abs (by decide +kernel) (pa_cons (pv 4) pa_nil))))
      (pss_cons (ps_set (i := 6) sc_behind.nd rfl (Or.inl rfl) (pe_op op_mulG (pe_op op_mulG (pv 5) (pe_ix ix_tup (pv 2) pe_int (fun _ _ => rfl))) (pe_ix ix_tup (pv 1) pe_int (fun _ _ => rfl))))
      (pss_cons (ps_set (i := 7) sc_behind.nd rfl (Or.inl rfl) (pe_call (ok_scaled T) (hr.mono (by decide)) (by rfl) T.m_scaled T.F_scaled.kp T.b_scaled .nil pass0 (pa_cons (pe_ix ix_tup (pv 2) pe_int (fun _ _ => rfl)) (pa_cons (pe_op op_mulG (pv 5) (pe_ix ix_tup (pv 0) pe_int (fun _ _ => rfl))) pa_nil))))
      (pss_cons (ps_set (i := 8) sc_behind.nd rfl (Or.inl rfl) (pe_call (ok_minus T) (hr.mono (by decide)) (by rfl) T.m_minus T.F_minus.kp T.b_minus .nil pass0 (pa_cons (pe_call (ok_scaled T) (hr.mono (by decide)) (by rfl) T.m_scaled T.F_scaled.kp T.b_scaled .nil pass0 (pa_cons (pe_ix ix_tup (pv 0) pe_int (fun _ _ => rfl)) (pa_cons (pv 6) pa_nil))) (pa_cons (pe_call (ok_times T) (hr.mono (by decide)) (by rfl) T.m_times T.F_times.kp T.b_times .nil pass0 (pa_cons (pv 7) (pa_cons (pe_ix ix_tup (pv 1) pe_int (fun _ _ => rfl)) pa_nil))) pa_nil))))
      (pss_cons (ps_set (i := 9) sc_behind.nd rfl (Or.inl rfl) (pe_call (ok_minus T) (hr.mono (by decide)) (by rfl) T.m_minus T.F_minus.kp T.b_minus .nil pass0 (pa_cons (pe_call (ok_scaled T) (hr.mono (by decide)) (by rfl) T.m_scaled T.F_scaled.kp T.b_scaled .nil pass0 (pa_cons (pe_ix ix_tup (pv 0) pe_int (fun _ _ => rfl)) (pa_cons (pv 6) pa_nil))) (pa_cons (pe_call (ok_times T) (hr.mono (by decide)) (by rfl) T.m_times T.F_times.kp T.b_times .nil pass0 (pa_cons (pv 7) (pa_cons (pe_ix ix_tup (pv 1) pe_int (fun _ _ => rfl)) pa_nil))) pa_nil))))
      (pss_one (ps_ret (pe_call (ok_shared T) (hr.mono (by decide)) (by rfl) T.m_shared T.F_shared.kp T.b_shared .nil pass0 (pa_cons (pe_call (ok_simple T) (hr.mono (by decide)) (by rfl) T.m_simple T.F_simple.kp T.b_simple .nil pass0 (pa_cons (pv 3) pa_nil)) (pa_cons (pv 8) (pa_cons (pv 9) (pa_cons (pe_op op_mulG (pe_op op_mulG (pe_ix ix_tup (pv 0) pe_int (fun _ _ => rfl)) (pe_ix ix_tup (pv 1) pe_int (fun _ _ => rfl))) (pe_callB cAbs (by rfl) T.z_abs (by decide +kernel) (pa_cons (pv 4) pa_nil))) pa_nil)))))))))))))))), ?_⟩
    refine N.go (σ := [some (.ref ph), some (.ref pt), none, none, none, none, none, none, none, none]) ?_
    walk_at "w"
    refine WC_divided (xs := x) (ys := x2) A1 A2 (by walk_at "rx") (by walk_at "rx") ⟨by omega, by omega⟩ ht hne hx hx2 B1 fun m q r hd k1 k2 k3 k4 p1 p2 p => ?_
    have hc := c m q r
    walk_at "d"
    walk_at "w"
    walk_at "d"
    walk_at "w"
    intro z
    walk_at "w"
    by_cases hr0 : r = []
    · rw [decide_eq_true hr0]
      walk_at "w"
      intro q1
      walk_at "w"
      intro q2
      walk_at "w"
      intro q3
      walk_at "w"
      refine ⟨by simp, fun pp => ?_⟩
      exact NR.sub (hc [] [] [] 1 hd k1 k2 k3 k4 (.inl ⟨hr0, rfl, rfl, rfl, rfl⟩) q1 q2 q3 pp) (by walk_at "sub")
    · rw [decide_eq_false hr0]
      walk_at "w"
      have hs0 := sgc_ne hd.rt hr0
      have hdv : CDivP (sgc r) ((sgc r).natAbs : Int) := by
        show ((sgc r).natAbs : Int) ≠ 0
        omega
      refine WC_signed_content (xs := r) (by walk_at "rx") ?_
      walk_at "d"
      walk_at "w"
      rw [sgn_fdiv hs0, show (if sgc r < 0 then (-1 : Int) else 1) = sgnr r from rfl]
      walk_at "d"
      have hsb : Bd 1 (sgnr r) := by unfold sgnr; split <;> (unfold Bd; decide)
      have bm : Bd ((x.length + 1 - x2.length) * A2 + 1) (sgnr r * m) := k1.sgnr r
      have bup : Bd ((x.length + 1 - x2.length) * A2 + 1 + d2) (sgnr r * m * n2) := bm.mul hdn2
      have bsn : Bd d1 (sgnr r * n) := hdn.sgnr r
      have nl : (x.length + 1 - x2.length) * A2 ≤ (x.length + 2 - x2.length) * (A2 + 1) := Nat.mul_le_mul (by omega) (by omega)
      have m1 : IntMulOk (sgnr r) m := mulL (by unfold sgnr; split <;> omega) (by unfold sgnr; split <;> omega)
      have m2 : IntMulOk (sgnr r * m) n2 := mulB bm hdn2 (by omega)
      have m3 : IntMulOk (sgnr r) n := mulL (by unfold sgnr; split <;> omega) (by unfold sgnr; split <;> omega)
      have m4 : IntMulOk n n2 := mulB hdn hdn2 (by omega)
      have bcr : Bd (A1 + (x.length + 1 - x2.length) * (A2 + 1)) (cont r : Int) := by
        have := cont_bd k3
        show ((cont r : Int)).natAbs < _
        rw [Int.natAbs_natCast]
        exact this
      have m5 : IntMulOk (n * n2) (cont r : Int) := mulB (hdn.mul hdn2) bcr (by omega)
      walk_at "w"
      walk_at "d"
      walk_at "w"
      refine WC_scaled (xs := q) (m := sgnr r * n) (A1 + (x.length + 1 - x2.length) * (A2 + 1)) d1 (by walk_at "rx") (by omega) k2 bsn (by omega) fun pd => ?_
      walk_at "d"
      walk_at "w"
      have ql := scaled_len q (sgnr r * n)
      have qb : BdL (A1 + (x.length + 1 - x2.length) * (A2 + 1) + d1) (scaled q (sgnr r * n)) := (scaled_bd k2 bsn).mono (by omega)
      refine WC_scaled (xs := u) (m := sgnr r * m * n2) c1 ((x.length + 1 - x2.length) * A2 + 1 + d2) (by walk_at "rx") (by omega) hu bup (by omega) fun pe => ?_
      walk_at "w"
      refine WC_times (xs := scaled q (sgnr r * n)) (ys := u2) (A1 + (x.length + 1 - x2.length) * (A2 + 1) + d1) c2 (by walk_at "rx") (by walk_at "rx") ⟨by omega, by omega⟩ qb hu2 (by omega) fun pf => ?_
      walk_at "w"
      have l1 := scaled_len u (sgnr r * m * n2)
      have l2 := tm_len (scaled q (sgnr r * n)) u2
      refine WC_minus (xs := scaled u (sgnr r * m * n2)) (ys := tm (scaled q (sgnr r * n)) u2) (by walk_at "rx") (by walk_at "rx") ⟨by omega, by omega⟩ fun pg => ?_
      walk_at "d"
      walk_at "w"
      refine WC_scaled (xs := v) (m := sgnr r * m * n2) c1 ((x.length + 1 - x2.length) * A2 + 1 + d2) (by walk_at "rx") (by omega) hv bup (by omega) fun pe2 => ?_
      walk_at "w"
      refine WC_times (xs := scaled q (sgnr r * n)) (ys := v2) (A1 + (x.length + 1 - x2.length) * (A2 + 1) + d1) c2 (by walk_at "rx") (by walk_at "rx") ⟨by omega, by omega⟩ qb hv2 (by omega) fun pf2 => ?_
      walk_at "w"
      have l3 := scaled_len v (sgnr r * m * n2)
      have l4 := tm_len (scaled q (sgnr r * n)) v2
      refine WC_minus (xs := scaled v (sgnr r * m * n2)) (ys := tm (scaled q (sgnr r * n)) v2) (by walk_at "rx") (by walk_at "rx") ⟨by omega, by omega⟩ fun pg2 => ?_
      have l5 := minus_len (scaled u (sgnr r * m * n2)) (tm (scaled q (sgnr r * n)) u2)
      have l6 := minus_len (scaled v (sgnr r * m * n2)) (tm (scaled q (sgnr r * n)) v2)
      walk_at "d"
      walk_at "w"
      refine WC_simple (xs := r) (by walk_at "rx") (by have := hd.rl; omega) hd.rt fun ps => ?_
      walk_at "w"
      rw [sgc_abs]
      walk_at "w"
      have hN : 1 ≤ n * n2 * (cont r : Int) := by
        have hcp := cont_pos hd.rt hr0
        have a4 : 0 < n * n2 := Int.mul_pos (by omega) (by omega)
        have := Int.mul_pos a4 (show (0 : Int) < (cont r : Int) by omega)
        omega
      refine WC_shared (by walk_at "rx") (by walk_at "rx") ⟨by omega, by omega⟩ hN fun p1 p2 p => ?_
      walk_at "w"
      refine NR.sub (hc _ _ _ _ hd k1 k2 k3 k4 (.inr ⟨hr0, _, _, _, rfl, rfl, rfl, rfl, rfl, rfl, rfl⟩) ps p1 p2 p) (by walk_at "sub")

end

section
variable {P : Program} {w : World} {K : PySem.W.Frag} {mg : Str → Option Value} {base : Heap}
def sp_meet : Sp := fun vs H Q _ => ∃ (a b : Addr) (xs ys : List Int) (A B : Nat) (E : Nat → Nat → Nat → Nat → Prop), vs = [.ref a, .ref b] ∧ H a = some (.lst (zV xs)) ∧ H b = some (.lst (zV ys)) ∧ (xs.length ≤ 40 ∧ ys.length ≤ 40) ∧ Tr xs ∧ Tr ys ∧ (xs ≠ [] ∨ ys ≠ []) ∧ (BdL A xs ∧ BdL B ys ∧ 1 ≤ A ∧ 1 ≤ B) ∧
  (ys ≠ [] → Go E xs.length ys.length A B 1 1 A B) ∧ (ys = [] → E xs.length A 1 A) ∧ MtQ E xs ys A B ∧
  ∀ (x s t u v : List Int) (n : Int) (a c d : Nat), Mt xs ys x s t u v n → E x.length a c d → BdL a x → BdL c u → BdL c v → Bd d n → MtB A B xs ys x s t → (x.length ≤ 40 ∧ u.length ≤ 2000 ∧ v.length ≤ 2000) →
    ∀ p1 p2 p3 p4 p5 p, NR Q (.ref p) H [(p, .tup [.ref p1, .ref p2, .ref p3, .ref p4, .ref p5, .int n]), (p5, .lst (zV v)), (p4, .lst (zV u)), (p3, .lst (zV t)), (p2, .lst (zV s)), (p1, .lst (zV x))]
theorem WC_meet {H0 : Hp} {fs : Fs} {Φ : CV} {a b : Addr} {xs ys : List Int} (A B : Nat) (E : Nat → Nat → Nat → Nat → Prop) (ha : Rx H0 fs a (.lst (zV xs))) (hb : Rx H0 fs b (.lst (zV ys))) (hl : xs.length ≤ 40 ∧ ys.length ≤ 40) (h1 : Tr xs) (h2 : Tr ys) (hne : xs ≠ [] ∨ ys ≠ []) (hbd : BdL A xs ∧ BdL B ys ∧ 1 ≤ A ∧ 1 ≤ B)
    (hgo : ys ≠ [] → Go E xs.length ys.length A B 1 1 A B) (hend : ys = [] → E xs.length A 1 A) (hq : MtQ E xs ys A B)
    (c : ∀ (x s t u v : List Int) (n : Int) (a c d : Nat), Mt xs ys x s t u v n → E x.length a c d → BdL a x → BdL c u → BdL c v → Bd d n → MtB A B xs ys x s t → (x.length ≤ 40 ∧ u.length ≤ 2000 ∧ v.length ≤ 2000) →
      ∀ p1 p2 p3 p4 p5 p, Φ (.ref p) ((p, .tup [.ref p1, .ref p2, .ref p3, .ref p4, .ref p5, .int n]) :: (p5, .lst (zV v)) :: (p4, .lst (zV u)) :: (p3, .lst (zV t)) :: (p2, .lst (zV s)) :: (p1, .lst (zV x)) :: fs)) : WC sp_meet [.ref a, .ref b] H0 fs Φ :=
  fun H k Q _ cc => ⟨a, b, xs, ys, A, B, E, rfl, ha H k, hb H k, hl, h1, h2, hne, hbd, hgo, hend, hq,
    fun x s t u v n a c d e1 e2 e3 e4 e5 e6 e7 e8 p1 p2 p3 p4 p5 p H' k' => cc _ _ _ (k.app k') (by
      rename_i cx _
      exact cx x s t u v n a c d e1 e2 e3 e4 e5 e6 e7 e8 p1 p2 p3 p4 p5 p)⟩
theorem ok_meet (T : Txt P K mg base) : FnOk P w K mg base CX0 46 T.a_meet T.d_meet ["ones", "others"] sp_meet := by
  refine T.F_meet.ok sc_meet (fun vs H Q E h => ?_) (fun cdv A outer s H vs Q E hr h => ?_)
  · obtain ⟨a, b, xs, ys, A, B, E, rfl, _⟩ := h; rfl
  · obtain ⟨a, b, xs, ys, A, B, E, rfl, ha, hb, hl, htx, hty, hne, hbd, hgo, hend, hq, c⟩ := h
    obtain ⟨hA, hB, hA1, hB1⟩ := hbd
    refine ⟨_, (pss_cut (ps_if (PW.pt (pw_and (pt_cmpR (op_eqD hr.units) (pv 0) (pe_lst pa_nil) (nomark _)) (pw_and1 (pt_cmpR (op_eqD hr.units) (pv 1) (pe_lst pa_nil) (nomark _))))) (pss_one ps_never) pss_nil)
      (pss_cons (ps_set (i := 2) sc_meet.nd rfl (Or.inl rfl) (pe_call (ok_begun T) (hr.mono (by decide)) (by rfl) T.m_begun T.F_begun.kp T.b_begun .nil pass0 (pa_cons (pv 0) (pa_cons pe_bl pa_nil))))
      (pss_cons (ps_set (i := 3) sc_meet.nd rfl (Or.inl rfl) (pe_call (ok_begun T) (hr.mono (by decide)) (by rfl) T.m_begun T.F_begun.kp T.b_begun .nil pass0 (pa_cons (pv 1) (pa_cons pe_bl pa_nil))))
      (pss_cons (ps_while PassesOwn.never (pt_cmpR (op_neD hr.units) (pe_ix ix_tup (pv 3) pe_int (fun _ _ => rfl)) (pe_lst pa_nil) (nomark _)) (pss_cons (ps_set (i := 4) sc_meet.nd rfl (Or.inl rfl) (pe_call (ok_behind T) (hr.mono (by decide)) (by rfl) T.m_behind T.F_behind.kp T.b_behind .nil pass0 (pa_cons (pv 2) (pa_cons (pv 3) pa_nil))))
      (pss_cons (ps_set (i := 2) sc_meet.nd rfl (Or.inl rfl) (pv 3))
      (pss_one (ps_set (i := 3) sc_meet.nd rfl (Or.inl rfl) (pv 4))))))
      (pss_cons (ps_set (i := 5) sc_meet.nd rfl (Or.inl rfl) (pe_callTy cListOf (by rfl) T.z_list (by decide +kernel) (pa_cons (pe_ix ix_tup (pv 2) pe_int (fun _ _ => rfl)) pa_nil)))
      (pss_one (ps_ret (pe_tup (pa_cons (pv 5) (pa_cons (pe_call (ok_quotient T) (hr.mono (by decide)) (by rfl) T.m_quotient T.F_quotient.kp T.b_quotient .nil pass0 (pa_cons (pv 0) (pa_cons (pv 5) pa_nil))) (pa_cons (pe_call (ok_quotient T) (hr.mono (by decide)) (by rfl) T.m_quotient T.F_quotient.kp T.b_quotient .nil pass0 (pa_cons (pv 1) (pa_cons (pv 5) pa_nil))) (pa_cons (pe_callTy cListOf (by rfl) T.z_list (by decide +kernel) (pa_cons (pe_ix ix_tup (pv 2) pe_int (fun _ _ => rfl)) pa_nil)) (pa_cons (pe_callTy cListOf (by rfl) T.z_list (by decide +kernel) (pa_cons (pe_ix ix_tup (pv 2) pe_int (fun _ _ => rfl)) pa_nil)) (pa_cons (pe_ix ix_tup (pv 2) pe_int (fun _ _ => rfl)) pa_nil)))))))))))))), ?_⟩
    refine N.go (σ := [some (.ref a), some (.ref b), none, none, none, none]) ?_

    refine S.cut (fun σ f => σ = [some (.ref a), some (.ref b), none, none, none, none] ∧ f = []) ?_ ?_
    · walk_at "w"
      intro z1
      walk_at "w"
      by_cases hx : xs = []
      · rw [decide_eq_true hx]
        walk_at "w"
        intro z2
        walk_at "w"
        rw [decide_eq_false (hne.resolve_left fun h => h hx)]
        walk_at "w"
        refine Un.sub [] (by walk_at "sub") ⟨rfl, rfl⟩
      · rw [decide_eq_false hx]
        walk_at "w"
        refine Un.sub [] (by walk_at "sub") ⟨rfl, rfl⟩
    rintro σ f ⟨rfl, rfl⟩
    walk_at "w"
    refine WC_begun (xs := xs) (by walk_at "rx") (by omega) htx fun g1 g2 g3 g => ?_
    walk_at "d"
    walk_at "w"
    refine WC_begun (xs := ys) (by walk_at "rx") (by omega) hty fun e1 e2 e3 e => ?_
    walk_at "d"
    walk_at "w"
    refine S.while_ (fun k σ f => ∃ ph pt a1 a2 a3 b1 b2 b3 x u v x2 u2 v2 n n2 A1 A2 c1 c2 d1 d2 rv, k = x2.length ∧ σ = [some (.ref a), some (.ref b), some (.ref ph), some (.ref pt), rv, none] ∧
      f = [(pt, .tup [.ref b1, .ref b2, .ref b3, .int n2]), (b3, .lst (zV v2)), (b2, .lst (zV u2)), (b1, .lst (zV x2)), (ph, .tup [.ref a1, .ref a2, .ref a3, .int n]), (a3, .lst (zV v)), (a2, .lst (zV u)), (a1, .lst (zV x))] ∧
      Cb xs ys x u v n ∧ Cb xs ys x2 u2 v2 n2 ∧ Sh xs ys x x2 ∧ (BdL A1 x ∧ BdL A2 x2 ∧ BdL c1 u ∧ BdL c1 v ∧ BdL c2 u2 ∧ BdL c2 v2 ∧ Bd d1 n ∧ Bd d2 n2) ∧
      (x2 ≠ [] → Go E x.length x2.length A1 A2 c1 c2 d1 d2) ∧ (x2 = [] → E x.length A1 c1 d1 ∧ x ≠ []) ∧
      (∃ K, K + 41 * x2.length ≤ 1700 ∧ u.length ≤ K ∧ v.length ≤ K ∧ u2.length ≤ K ∧ v2.length ≤ K) ∧ (x.length ≤ 40 ∧ x2.length ≤ 40)) (simp' ys).length ?_ ?_
    · refine ⟨g, e, g1, g2, g3, e1, e2, e3, simp' xs, bgU true xs, bgU false xs, simp' ys, bgU false ys, bgU true ys, bgN xs, bgN ys, A, B, 1, 1, A, B, none, rfl, rfl, rfl, Cb.begunL ys htx, Cb.begunR xs hty, Sh.start htx hty,
        ⟨simp_bd htx hA, simp_bd hty hB, bgU_bd _ _, bgU_bd _ _, bgU_bd _ _, bgU_bd _ _, bgN_bd hA1 hA, bgN_bd hB1 hB⟩, fun h => ?_, fun h => ?_, ⟨1, ?_, bgU_len _ _, bgU_len _ _, bgU_len _ _, bgU_len _ _⟩, ?_⟩
      · rw [simp_len, simp_len]
        exact hgo fun h0 => h (by rw [h0]; rfl)
      · have h0 : ys = [] := List.length_eq_zero_iff.mp (by rw [← simp_len, h]; rfl)
        rw [simp_len]
        exact ⟨hend h0, simp_ne (hne.resolve_right fun h1 => h1 h0)⟩
      · rw [simp_len]; omega
      · rw [simp_len, simp_len]; omega
    rintro k σ f ⟨ph, pt, a1, a2, a3, b1, b2, b3, x, u, v, x2, u2, v2, n, n2, A1, A2, c1, c2, d1, d2, rv, rfl, rfl, rfl, hc1, hc2, hsh, hbb, hg, hen, ⟨KK, hK, hku, hkv, hku2, hkv2⟩, hlx⟩
    walk_at "w"
    intro z
    walk_at "w"
    by_cases hx2 : x2 = []
    · rw [decide_eq_true hx2]
      walk_at "w"
      subst hx2
      obtain ⟨hE, hxn⟩ := hen rfl
      obtain ⟨hb1, _, hb3, hb4, _, _, hb5, _⟩ := hbb
      obtain ⟨hct, hla⟩ := hc1.sm hxn
      obtain ⟨pd1, pd2⟩ := hsh.end' hct
      obtain ⟨s', hs⟩ := pd1.whole
      obtain ⟨t', ht⟩ := pd2.whole
      obtain ⟨a', ba', q1, q2⟩ := hq _ _ _ _ x hE rfl hb1 hc1.xt hxn hct hla pd1 pd2
      intro pf
      walk_at "d"
      walk_at "w"
      refine WC_quotient (xs := xs) (ys := x) s' A a' (by walk_at "rx") (by walk_at "rx") ⟨by omega, by omega⟩ hc1.xt hxn hA ba' q1 hs fun bs ps => ?_
      walk_at "w"
      refine WC_quotient (xs := ys) (ys := x) t' B a' (by walk_at "rx") (by walk_at "rx") ⟨by omega, by omega⟩ hc1.xt hxn hB ba' q2 ht fun bt pt' => ?_
      walk_at "w"
      intro pu
      walk_at "w"
      intro pv
      walk_at "w"
      refine ⟨by simp, fun p => ?_⟩
      exact NR.sub (c x s' t' u v n _ _ _ ⟨hc1, hxn, hs, ht⟩ hE hb1 hb3 hb4 hb5 ⟨a', ba', q1, q2, bs, bt⟩ ⟨hlx.1, by omega, by omega⟩ pf ps pt' pu pv p) (by walk_at "sub")
    · rw [decide_eq_false hx2]
      have hgo' := hg hx2
      obtain ⟨hBh, hE2, hnext⟩ := hgo'
      walk_at "w"
      refine WC_behind (x := x) (u := u) (v := v) (x2 := x2) (u2 := u2) (v2 := v2) A1 A2 c1 c2 d1 d2 (by walk_at "rx") (by walk_at "rx") (by walk_at "rx") (by walk_at "rx") (by walk_at "rx") (by walk_at "rx") (by walk_at "rx") (by walk_at "rx") hBh ⟨by omega, by omega, by omega, by omega⟩ hc2.xt hx2 ⟨hc1.n1, hc2.n1⟩ hbb
        fun m q r x' u' v' n' k1 k2 k3 k4 k5 k6 p1 p2 p3 p => ?_
      walk_at "d"
      walk_at "w"
      walk_at "d"
      walk_at "w"
      walk_at "d"
      walk_at "w"
      walk_at "d"
      have hrl := k1.rl
      have hx2l : 0 < x2.length := List.length_pos_iff.mpr hx2
      have hcb := k6.cb hc1 hc2 k1
      have hsh' := k6.sh hsh k1
      obtain ⟨hb1, hb2, hb3, hb4, hb5, hb6, hb7, hb8⟩ := hbb
      by_cases hr0 : r = []
      · obtain ⟨_, rfl, rfl, rfl, rfl⟩ | ⟨h1, _⟩ := k6
        · refine Wl.sub [(p, .tup [.ref p1, .ref p2, .ref p3, .int 1]), (p3, .lst (zV [])), (p2, .lst (zV [])), (p1, .lst (zV [])), (pt, .tup [.ref b1, .ref b2, .ref b3, .int n2]), (b3, .lst (zV v2)), (b2, .lst (zV u2)), (b1, .lst (zV x2))] (by walk_at "sub") (m' := 0) hx2l ?_
          exact ⟨pt, p, b1, b2, b3, p1, p2, p3, x2, u2, v2, [], [], [], n2, 1, A2, 0, c2, 0, d2, 1, _, rfl, rfl, rfl, hc2, hcb, hsh', ⟨hb2, BdL.nil, hb5, hb6, BdL.nil, BdL.nil, hb8, by unfold Bd; decide⟩, fun h => absurd rfl h, fun _ => ⟨hE2, hx2⟩, ⟨KK, by simp only [List.length_nil]; omega, hku2, hkv2, Nat.zero_le _, Nat.zero_le _⟩, ⟨hlx.2, by simp⟩⟩
        · exact absurd hr0 h1
      · obtain ⟨ex, n1, n2', n3, n4, n5⟩ := k6.bd (A1 := A1) (A2 := A2) (c1 := c1) (c2 := c2) (d1 := d1) (d2 := d2) (K := KK) hr0 k1 ⟨hc1.n1, hc2.n1⟩ ⟨hlx.1, hlx.2, hx2⟩ k5 ⟨hku, hkv, hku2, hkv2⟩ ⟨hb3, hb4, hb5, hb6, hb7, hb8⟩ k2 k3 k4
        have hxl : x'.length = r.length := by rw [ex, simp_len]
        refine Wl.sub [(p, .tup [.ref p1, .ref p2, .ref p3, .int n']), (p3, .lst (zV v')), (p2, .lst (zV u')), (p1, .lst (zV x')), (pt, .tup [.ref b1, .ref b2, .ref b3, .int n2]), (b3, .lst (zV v2)), (b2, .lst (zV u2)), (b1, .lst (zV x2))] (by walk_at "sub") (m' := x'.length) (by omega) ?_
        refine ⟨pt, p, b1, b2, b3, p1, p2, p3, x2, u2, v2, x', u', v', _, _, A2, _, c2, _, d2, _, _, rfl, rfl, rfl, hc2, hcb, hsh', ⟨hb2, n1, hb5, hb6, n2', n3, hb8, n4⟩, fun h => ?_, fun h => ?_, ⟨KK + 40, by omega, by omega, by omega, n5.1, n5.2⟩, ⟨hlx.2, by omega⟩⟩
        · exact hnext _ (List.length_pos_iff.mpr h) (by omega)
        · exact absurd h (by rw [ex]; exact simp_ne hr0)

end

section
variable {P : Program} {w : World} {K : PySem.W.Frag} {mg : Str → Option Value} {base : Heap}
/-- what parts asks of sizes -/
structure PtG (row : List Int) (b : Nat) : Prop where
  t : Tr row
  ne : row ≠ []
  l : row.length ≤ 13
  bd : BdL b row
  b9 : 1 ≤ b ∧ b ≤ 9000
  go : slp (simp' row) ≠ [] → Go E2 row.length (row.length - 1) b (b + 4) 1 1 b (b + 4)
  go2 : ∀ l1 l2, l1 + 1 ≤ row.length → l2 + 1 ≤ l1 → 1 ≤ l2 → Go E2 l1 l2 (b + 144) (2 * b + 440) 1 1 (b + 144) (2 * b + 440)
def sp_parts : Sp := fun vs H Q _ => ∃ (a : Addr) (row : List Int) (b : Nat), vs = [.ref a] ∧ H a = some (.lst (zV row)) ∧ PtG row b ∧
  ∀ (ps : List Pr4) (k : Nat), k ≤ 14 → Pts k (pfo ps) → S (simp' row) = prodS (pfo ps) → Prt (simp' row) (pfo ps) → ∀ pn pp, NR Q (.ref pp) H ((pp, .tup [.int (sgc row), .ref pn]) :: (pn, .lst (pvs ps)) :: pf ps)
theorem WC_parts {H0 : Hp} {fs : Fs} {Φ : CV} {a : Addr} {row : List Int} (b : Nat) (h : Rx H0 fs a (.lst (zV row))) (hB : PtG row b)
    (c : ∀ (ps : List Pr4) (k : Nat), k ≤ 14 → Pts k (pfo ps) → S (simp' row) = prodS (pfo ps) → Prt (simp' row) (pfo ps) → ∀ pn pp, Φ (.ref pp) ((pp, .tup [.int (sgc row), .ref pn]) :: (pn, .lst (pvs ps)) :: (pf ps ++ fs))) : WC sp_parts [.ref a] H0 fs Φ :=
  fun H k Q E cc => ⟨a, row, b, rfl, h H k, hB, fun ps j h1 h2 h3 h4 pn pp H' k' => cc _ _ _ (k.app k') (c ps j h1 h2 h3 h4 pn pp)⟩
theorem E2.triv {L A c d : Nat} (h1 : A ≤ 66000000) (h2 : c ≤ 66000000) (h3 : d ≤ 66000000) : E2 L A c d := ⟨h2, h3, h1⟩
/-- the quotients' bits -/
theorem MtQ.div {W A B : List Int} {b a c : Nat} (hW : Smp W) (hl : W.length ≤ 13) (hb : BdL b W) (ha : a ≤ 60000) (hc : c ≤ 60000) (hb9 : b ≤ 9000) (la : A.length ≤ 13) (lb : B.length ≤ 13) (h : PD (S A) (S W)) : MtQ E2 A B a c := by
  intro L a' c' d g _ _ _ ht hne _ _ h1 _
  have hp : 0 < g.length := List.length_pos_iff.mpr hne
  have hg := pd_bd hW.t hW.ne hl hb ht hne (h1.trans h)
  have m1 : (A.length + 2 - g.length) * (b + 144 + 1) ≤ 15 * 9145 := Nat.mul_le_mul (by omega) (by omega)
  have m2 : (B.length + 2 - g.length) * (b + 144 + 1) ≤ 15 * 9145 := Nat.mul_le_mul (by omega) (by omega)
  exact ⟨b + 144, hg, by omega, by omega⟩
theorem ok_parts (T : Txt P K mg base) : FnOk P w K mg base CX0 47 T.a_parts T.d_parts ["row"] sp_parts := by
  refine T.F_parts.ok sc_parts (fun vs H Q E h => ?_) (fun cdv A outer s H vs Q E hr h => ?_)
  · obtain ⟨a, row, b, rfl, _⟩ := h; rfl
  · obtain ⟨a, row, b, rfl, ha, hB, c⟩ := h
    obtain ⟨htr, hne, hl13, hbd, hb9, hgo, hgo2⟩ := hB
    refine ⟨_, (pss_cons (ps_if (pt_cmpR (op_eqD hr.units) (pv 0) (pe_lst pa_nil) (nomark _)) (pss_one ps_never) pss_nil)
      (pss_cons (ps_set (i := 1) sc_parts.nd rfl (Or.inl rfl) (pe_lst pa_nil))
      (pss_cons (ps_set (i := 2) sc_parts.nd rfl (Or.inl rfl) (pe_call (ok_simple T) (hr.mono (by decide)) (by rfl) T.m_simple T.F_simple.kp T.b_simple .nil pass0 (pa_cons (pv 0) pa_nil)))
      (pss_cons (ps_set (i := 3) sc_parts.nd rfl (Or.inl rfl) (pe_call (ok_meet T) (hr.mono (by decide)) (by rfl) T.m_meet T.F_meet.kp T.b_meet .nil pass0 (pa_cons (pv 2) (pa_cons (pe_call (ok_slope T) (hr.mono (by decide)) (by rfl) T.m_slope T.F_slope.kp T.b_slope .nil pass0 (pa_cons (pv 2) pa_nil)) pa_nil))))
      (pss_cons (ps_set (i := 4) sc_parts.nd rfl (Or.inl rfl) (pe_ix ix_tup (pv 3) pe_int (fun _ _ => rfl)))
      (pss_cons (ps_set (i := 5) sc_parts.nd rfl (Or.inl rfl) (pe_call (ok_minus T) (hr.mono (by decide)) (by rfl) T.m_minus T.F_minus.kp T.b_minus .nil pass0 (pa_cons (pe_ix ix_tup (pv 3) pe_int (fun _ _ => rfl)) (pa_cons (pe_call (ok_slope T) (hr.mono (by decide)) (by rfl) T.m_slope T.F_slope.kp T.b_slope .nil pass0 (pa_cons (pv 4) pa_nil)) pa_nil))))
      (pss_cons (ps_set (i := 6) sc_parts.nd rfl (Or.inl rfl) pe_int)
      (pss_cons (ps_while PassesOwn.never (pt_cmpR op_gt (pe_callB cLen (by rfl) T.z_len PySem.boot_len (pa_cons (pv 4) pa_nil)) pe_int (nomark _)) (pss_cons (ps_set (i := 3) sc_parts.nd rfl (Or.inl rfl) (pe_call (ok_meet T) (hr.mono (by decide)) (by rfl) T.m_meet T.F_meet.kp T.b_meet .nil pass0 (pa_cons (pv 4) (pa_cons (pv 5) pa_nil))))
      (pss_cut (ps_if (pt_cmpR op_gt (pe_callB cLen (by rfl) T.z_len PySem.boot_len (pa_cons (pe_ix ix_tup (pv 3) pe_int (fun _ _ => rfl)) pa_nil)) pe_int (nomark _)) (pss_one (ps_expr (pe_bm PySem.F.plainAttrs_list PySem.F.slot_list_append PySem.F.type_list_append mt_append (pv 1) (pa_cons (pe_tup (pa_cons (pe_ix ix_tup (pv 3) pe_int (fun _ _ => rfl)) (pa_cons (pv 6) pa_nil))) pa_nil)))) pss_nil)
      (pss_cons (ps_set (i := 4) sc_parts.nd rfl (Or.inl rfl) (pe_ix ix_tup (pv 3) pe_int (fun _ _ => rfl)))
      (pss_cons (ps_set (i := 5) sc_parts.nd rfl (Or.inl rfl) (pe_call (ok_minus T) (hr.mono (by decide)) (by rfl) T.m_minus T.F_minus.kp T.b_minus .nil pass0 (pa_cons (pe_ix ix_tup (pv 3) pe_int (fun _ _ => rfl)) (pa_cons (pe_call (ok_slope T) (hr.mono (by decide)) (by rfl) T.m_slope T.F_slope.kp T.b_slope .nil pass0 (pa_cons (pv 4) pa_nil)) pa_nil))))
      (pss_one (ps_set (i := 6) sc_parts.nd rfl (Or.inl rfl) (pe_op op_add (pv 6) pe_int))))))))
      (pss_one (ps_ret (pe_tup (pa_cons (pe_call (ok_signed_content T) (hr.mono (by decide)) (by rfl) T.m_signed_content T.F_signed_content.kp T.b_signed_content .nil pass0 (pa_cons (pv 0) pa_nil)) (pa_cons (pv 1) pa_nil))))))))))))), ?_⟩
    refine N.go (σ := [some (.ref a), none, none, none, none, none, none]) ?_
    have hW := Smp.simp htr hne
    have hWl : (simp' row).length = row.length := simp_len row
    have hWb : BdL b (simp' row) := simp_bd htr hbd
    walk_at "w"
    intro z0
    walk_at "w"
    rw [decide_eq_false hne]
    walk_at "w"
    intro fn
    walk_at "d"
    walk_at "w"
    refine WC_simple (xs := row) (by walk_at "rx") (by omega) htr fun pw' => ?_
    walk_at "d"
    walk_at "w"
    generalize simp' row = W at *
    refine WC_slope (xs := W) b (by walk_at "rx") (by omega) hWb (by omega) fun psl => ?_
    walk_at "w"
    have hsl : (slp W).length = row.length - 1 := by rw [slp_len, hWl]
    have hslb : BdL (b + 4) (slp W) := (slp_bd hWb (by omega)).mono (by omega)
    refine WC_meet (xs := W) (ys := slp W) b (b + 4) E2 (by walk_at "rx") (by walk_at "rx") ⟨by omega, by omega⟩ hW.t (slp_tr hW.t) (.inl hW.ne) ⟨hWb, hslb, by omega, by omega⟩
      (fun h => by rw [hWl, hsl]; exact hgo h) (fun _ => E2.triv (by omega) (by omega) (by omega)) (MtQ.div hW (by omega) hWb (by omega) (by omega) (by omega) (by omega) (by omega) (PD.refl _)) fun x s t u v n a' c' d' hM _ _ _ _ _ _ hxl p1 p2 p3 p4 p5 p => ?_
    walk_at "d"
    walk_at "w"
    have hY := Yn.start hW hM
    obtain ⟨bs, ls, lx, _⟩ := hY.bits hW (by omega) hWb
    refine WC_slope (xs := s) (b + 144) (by walk_at "rx") (by omega) bs (by omega) fun psl2 => ?_
    walk_at "w"
    have hls2 := slp_len s
    have htl : t.length ≤ 40 := by
      have := hM.w2.len hM.smp.t hM.ne
      omega
    refine WC_minus (xs := t) (ys := slp s) (by walk_at "rx") (by walk_at "rx") ⟨by omega, by omega⟩ fun pd => ?_
    walk_at "d"
    walk_at "w"
    walk_at "d"
    have hLG := hY.len hW
    have hGp := hY.hG.pos
    have hLp := hY.hL.pos
    refine N.sub [(pd, .lst (zV (minus t (slp s)))), (p2, .lst (zV s)), (fn, .lst (zV []))] (by walk_at "sub") ?_
    refine S.while_ (fun m σ f => ∃ (pd pL pm : Addr) (L D G : List Int) (k : Nat) (ps : List Pr4), m = 2 * G.length + (if 1 < L.length then 1 else 0) ∧ σ = [some (.ref a), some (.ref fn), some (.ref pw'), some (.ref pm), some (.ref pL), some (.ref pd), some (.int (k : Int))] ∧
      f = (pd, .lst (zV D)) :: (pL, .lst (zV L)) :: (fn, .lst (pvs ps.reverse)) :: pf ps ∧ Yn W L D G k (pfo ps.reverse) ∧ (∀ r, Rn L D k r → Rn s (minus t (slp s)) 1 (pfo ps.reverse ++ r)) ∧ L.length ≤ s.length ∧ (1 < L.length → k + G.length ≤ W.length) ∧ k ≤ W.length + 1 ∧ ps.length < k) _
      ⟨pd, p2, p, s, minus t (slp s), x, 1, [], rfl, rfl, rfl, hY, fun r hr => hr, Nat.le_refl _, fun h => by omega, by omega, Nat.zero_lt_one⟩ ?_
    rintro m σ f ⟨pd, pL, pm, L, D, G, k, ps, rfl, rfl, rfl, hY, hR, hLs, hk1, hk2, hpl⟩
    have hLG := hY.len hW
    have hGp := hY.hG.pos
    have hLp := hY.hL.pos
    obtain ⟨bL, lL', lG', hD⟩ := hY.bits hW (by omega) hWb
    have bD : BdL (2 * b + 440) D := by
      by_cases h0 : D = []
      · rw [h0]; exact BdL.nil
      · exact (hD h0).2.2
    have lD : D.length ≤ 13 := by
      by_cases h0 : D = []
      · rw [h0]; simp
      · have := (hD h0).2.1
        omega
    walk_at "w"
    walk_at "if"
    · rename_i hgt
      have hgt' : 1 < L.length := by omega
      walk_at "w"
      refine WC_meet (xs := L) (ys := D) (b + 144) (2 * b + 440) E2 (by walk_at "rx") (by walk_at "rx") ⟨by omega, by omega⟩ hY.hL.t hY.tD (.inl hY.hL.ne) ⟨bL, bD, by omega, by omega⟩
        (fun h => hgo2 _ _ (by have := (hD h).1; omega) (hD h).2.1 (List.length_pos_iff.mpr h))
        (fun _ => E2.triv (by omega) (by omega) (by omega)) (MtQ.div hW (by omega) hWb (by omega) (by omega) (by omega) (by omega) lD hY.pdL) fun h l d u2 v2 n2 a2 c2 d2 hM2 _ _ _ _ _ _ hxl2 q1 q2 q3 q4 q5 q => ?_
      obtain ⟨G2, eG, hY2⟩ := hY.next hM2
      have hl2 := hY2.hL
      have hG2 := hY2.hG
      obtain ⟨_, lens, _⟩ := prod_len hY.hG.t hl2.t hG2.t hl2.ne hG2.ne eG
      have hl2p := hl2.pos
      have hG2p := hG2.pos
      have hlL2 : l.length ≤ L.length := by
        have := hM2.w1.lens hM2.smp.t hM2.ne hY.hL.ne hY.hL.t
        have e := (prod_len hY.hL.t hM2.smp.t hl2.t hM2.ne hl2.ne hM2.w1.2).2.1
        have := hM2.smp.pos
        omega
      walk_at "d"
      refine S.cut (fun σ f => ∃ ps' : List Pr4, σ = [some (.ref a), some (.ref fn), some (.ref pw'), some (.ref q), some (.ref pL), some (.ref pd), some (.int (k : Int))] ∧
        f = (q, .tup [.ref q1, .ref q2, .ref q3, .ref q4, .ref q5, .int n2]) :: (q3, .lst (zV d)) :: (q2, .lst (zV l)) :: (fn, .lst (pvs ps'.reverse)) :: pf ps' ∧ pfo ps'.reverse = (if 1 < h.length then pfo ps.reverse ++ [(h, k)] else pfo ps.reverse) ∧ ps'.length < k + 1) ?_ ?_
      · walk_at "w"
        walk_at "if"
        · rename_i hh
          have hh' : 1 < h.length := by omega
          refine S.app ?_
          walk_at "w0"
          refine ⟨⟨_, by walk_at "rl"⟩, ?_⟩
          walk_at "w0"
          refine ⟨by simp, fun tt => ?_⟩
          refine ⟨_, 9, rfl, ?_, ?_⟩
          · unfold pvs; rw [List.length_map, List.length_reverse]; omega
          walk_at "d"
          have ev : pvs ps.reverse ++ [V.ref tt] = pvs ((tt, q1, h, k) :: ps).reverse := by unfold pvs; simp
          rw [ev]
          refine N.sub ((tt, .tup [.ref q1, .int (k : Int)]) :: (q, .tup [.ref q1, .ref q2, .ref q3, .ref q4, .ref q5, .int n2]) :: (q3, .lst (zV d)) :: (q2, .lst (zV l)) :: (q1, .lst (zV h)) :: (fn, .lst (pvs ((tt, q1, h, k) :: ps).reverse)) :: pf ps) (by walk_at "sub") ?_
          refine N.perm (fs' := (q, .tup [.ref q1, .ref q2, .ref q3, .ref q4, .ref q5, .int n2]) :: (q3, .lst (zV d)) :: (q2, .lst (zV l)) :: (fn, .lst (pvs ((tt, q1, h, k) :: ps).reverse)) :: pf ((tt, q1, h, k) :: ps)) ?_ ?_
          · rw [pf_cons]
            refine .trans (.swap _ _ _) (.cons _ ?_)
            refine .trans (.swap _ _ _) (.cons _ ?_)
            refine .trans (.swap _ _ _) (.cons _ ?_)
            refine .trans (.cons _ (.swap _ _ _)) (.swap _ _ _)
          walk_at "un"
          exact ⟨_, rfl, rfl, by rw [if_pos hh']; unfold pfo; simp, by simp; omega⟩
        · rename_i hh
          walk_at "w"
          refine Un.sub ((q, .tup [.ref q1, .ref q2, .ref q3, .ref q4, .ref q5, .int n2]) :: (q3, .lst (zV d)) :: (q2, .lst (zV l)) :: (fn, .lst (pvs ps.reverse)) :: pf ps) (by walk_at "sub") ?_
          exact ⟨ps, rfl, rfl, by rw [if_neg (by omega)], by omega⟩
      rintro σ f ⟨ps', rfl, rfl, hps, hpl'⟩
      rw [← hps] at hY2
      walk_at "w"
      walk_at "d"
      walk_at "w"
      refine WC_slope (xs := l) (b + 144) (by walk_at "rx") (by omega) (hY2.bits hW (by omega) hWb).1 (by omega) fun psl3 => ?_
      walk_at "w"
      have hls3 := slp_len l
      have hdl : d.length ≤ 40 := by
        have := hM2.w2.len hM2.smp.t hM2.ne
        omega
      refine WC_minus (xs := d) (ys := slp l) (by walk_at "rx") (by walk_at "rx") ⟨by omega, by omega⟩ fun pd2 => ?_
      walk_at "d"
      walk_at "w"
      walk_at "d"
      have hYL := hY2.len hW
      refine Wl.sub ((pd2, .lst (zV (minus d (slp l)))) :: (q2, .lst (zV l)) :: (fn, .lst (pvs ps'.reverse)) :: pf ps') (by walk_at "sub") (m' := 2 * G2.length + (if 1 < l.length then 1 else 0)) ?_ ?_
      · rw [if_pos hgt']
        split <;> omega
      · refine ⟨pd2, q2, q, l, minus d (slp l), G2, k + 1, ps', rfl, ?_, rfl, hY2, fun r hr => ?_, by omega, fun h => by omega, by omega, by omega⟩
        · rw [Int.natCast_add]; rfl
        · have := hR _ (Rn.step hgt' hM2 hr)
          rw [hps]
          split at this
          · rename_i hc
            rw [if_pos hc, List.append_assoc]
            exact this
          · rename_i hc
            rw [if_neg hc]
            exact this
    · rename_i hle
      have hle' : L.length ≤ 1 := by omega
      walk_at "w"
      refine WC_signed_content (xs := row) (by walk_at "rx") ?_
      walk_at "w"
      refine ⟨by simp, fun pp => ?_⟩
      have e1 := hY.end' hle'
      have e2 := hR [] (.done hle')
      rw [List.append_nil] at e2
      have := c ps.reverse k (by omega) hY.pt e1 ⟨x, s, t, u, v, n, hM, e2⟩ fn pp
      have h3 : NR Q (.ref pp) H ((pp, .tup [.int (sgc row), .ref fn]) :: (fn, .lst (pvs ps.reverse)) :: pf ps) := NR.perm (.cons _ (.cons _ (pf_rev ps).symm)) this
      exact NR.sub h3 (by walk_at "sub")

end

section
variable {P : Program} {w : World} {K : PySem.W.Frag} {mg : Str → Option Value} {base : Heap}
/-- what joined asks of sizes -/
def JnB (c : Int) (fo : List (List Int × Nat)) (b X : Nat) : Prop := fo.length ≤ 30 ∧ Bd b c ∧ (∀ q ∈ fo, q.2 ≤ 100 ∧ (∀ i, i ≤ q.2 → (pw q.1 i).length ≤ 800) ∧ BdL X q.1 ∧ q.1.length ≤ 800) ∧ b + 40 * (101 * (X + 12) + 16) ≤ 134217728
theorem JnB.take {c : Int} {fo : List (List Int × Nat)} {b X i : Nat} (h : JnB c fo b X) (hi : i ≤ fo.length) (acc : List Int) (ha : acc.length ≤ 1) (hb : BdL b acc) : BdL (b + 30 * (101 * (X + 10) + 16)) (jn acc (fo.take i)) ∧ (jn acc (fo.take i)).length ≤ 30000 := by
  obtain ⟨h1, h2, h3, h4⟩ := h
  have hl : (fo.take i).length ≤ 30 := by rw [List.length_take]; omega
  obtain ⟨j1, j2⟩ := jn_bd (X := X) (fo.take i) acc b hb (by omega) fun q hq => by
    obtain ⟨a1, a2, a3, _⟩ := h3 q (List.mem_of_mem_take hq)
    exact ⟨a1, a2, a3⟩
  have m := Nat.mul_le_mul_right (101 * (X + 10) + 16) hl
  exact ⟨j1.mono (by omega), by omega⟩
def sp_joined (K : PySem.W.Frag) : Sp := fun vs H Q _ => ∃ (pn : Addr) (c : Int) (ps : List Pr4) (b X : Nat), vs = [.int c, .ref pn] ∧ SqL K H pn (pvs ps) ∧ Hps H ps ∧ JnB c (pfo ps) b X ∧ ∀ p, NR Q (.ref p) H [(p, .lst (zV (jn (trim [c]) (pfo ps))))]
theorem WC_joined {K : PySem.W.Frag} {H0 : Hp} {fs : Fs} {Φ : CV} {pn : Addr} {c : Int} {ps : List Pr4} (b X : Nat) (h : Rl K H0 fs pn (pvs ps)) (hp : Rps H0 fs ps) (hB : JnB c (pfo ps) b X) (q : ∀ p, Φ (.ref p) ((p, .lst (zV (jn (trim [c]) (pfo ps)))) :: fs)) : WC (sp_joined K) [.int c, .ref pn] H0 fs Φ :=
  fun H k Q E cc => ⟨pn, c, ps, b, X, rfl, h H k, hp.at k, hB, fun p H' k' => cc _ _ _ (k.app k') (q p)⟩
theorem ok_joined (T : Txt P K mg base) : FnOk P w K mg base CX0 44 T.a_joined T.d_joined ["number", "pairs"] (sp_joined K) := by
  refine T.F_joined.ok sc_joined (fun vs H Q E h => ?_) (fun cdv A outer s H vs Q E hr h => ?_)
  · obtain ⟨pn, c, ps, b, X, rfl, _⟩ := h; rfl
  · obtain ⟨pn, c, ps, b, X, rfl, hn, hps, hB, q⟩ := h
    refine ⟨_, (pss_cons (ps_set (i := 2) sc_joined.nd rfl (Or.inl rfl) (pe_call (ok_made T) (hr.mono (by decide)) (by rfl) T.m_made T.F_made.kp T.b_made .nil pass0 (pa_cons (pe_lst (pa_cons (pv 0) pa_nil)) pa_nil)))
      (pss_cons (ps_for PassesOwn.never rfl (pi_list (pv 1)) (pg_tup rfl (pgs_cons (pg_name (i := 3) sc_joined.nd rfl (Or.inl rfl)) (pgs_cons (pg_name (i := 4) sc_joined.nd rfl (Or.inl rfl)) pgs_nil))) (pss_one (ps_set (i := 2) sc_joined.nd rfl (Or.inl rfl) (pe_call (ok_times T) (hr.mono (by decide)) (by rfl) T.m_times T.F_times.kp T.b_times .nil pass0 (pa_cons (pv 2) (pa_cons (pe_call (ok_raised T) (hr.mono (by decide)) (by rfl) T.m_raised T.F_raised.kp T.b_raised .nil pass0 (pa_cons (pv 3) (pa_cons (pv 4) pa_nil))) pa_nil))))))
      (pss_one (ps_ret (pv 2))))), ?_⟩
    refine N.go (σ := [some (.int c), some (.ref pn), none, none, none]) ?_
    have hB' := hB
    obtain ⟨hl, hc, hq, hX⟩ := hB'
    have hcl : BdL b (trim [c]) := BdL.trim fun y hy => by rw [List.mem_singleton.mp hy]; exact hc
    have hcl1 : (trim [c]).length ≤ 1 := trim_length_le _
    walk_at "w"
    intro l1
    walk_at "w"
    refine WC_made (xs := [c]) (by walk_at "rl") (by simp) fun r0 => ?_
    walk_at "d"
    walk_at "w"
    refine N.sub [(r0, .lst (zV (trim [c])))] (by walk_at "sub") ?_
    refine S.forL (a := pn) (xs := pvs ps) (fun i σ f => ∃ r y1 y2, σ = [some (.int c), some (.ref pn), some (.ref r), y1, y2] ∧ f = [(r, .lst (zV (jn (trim [c]) ((pfo ps).take i))))] ∧ i ≤ ps.length) ?_ ?_ ?_ ?_
    · walk_at "w"
      exact ⟨rfl, by walk_at "rl", r0, none, none, rfl, rfl, Nat.zero_le _⟩
    · rintro i σ f ⟨r, y1, y2, rfl, rfl, _⟩
      walk_at "rl"
    · rintro i x σ f hx ⟨r, y1, y2, rfl, rfl, hi⟩ H1 k1
      obtain ⟨qq, hqq, rfl⟩ := pvs_get hx
      have hmem := List.mem_of_getElem? hqq
      refine ⟨qq.1, _, rfl, SqT.of (k1.same _ _ (hps.t qq hmem)), rfl, _, _, rfl, _, _, rfl, rfl, ?_⟩
      revert H1 k1
      refine N.of ?_
      walk_at "d"
      have hq1 := hq _ (mem_pfo hmem)
      obtain ⟨h1, h2, h3, h4⟩ := hq1
      have hlt := (List.getElem?_eq_some_iff.mp hqq).1
      obtain ⟨jb, jl⟩ := hB.take (i := i) (by rw [pfo_len]; omega) (trim [c]) hcl1 hcl
      have hpl : (pw qq.2.2.1 qq.2.2.2).length ≤ 800 := h2 _ (Nat.le_refl _)
      have hpb := pw_bd (c := 10) h3 qq.2.2.2 fun j hj => Nat.le_trans (h2 j (by show j ≤ qq.2.2.2; omega)) (by decide)
      have hm : qq.2.2.2 * (X + 10) ≤ 100 * (X + 10) := Nat.mul_le_mul_right _ h1
      have hm2 : (qq.2.2.2 + 1) * (X + 12) ≤ 101 * (X + 12) := Nat.mul_le_mul_right _ (Nat.succ_le_succ h1)
      have h1' : qq.2.2.2 ≤ 100 := h1
      have hp1 := hps.l qq hmem
      walk_at "w"
      refine WC_raised (xs := qq.2.2.1) (c := qq.2.2.2) X (by walk_at "rx") (by omega) (by show qq.2.2.1.length ≤ 4000; have : qq.2.2.1.length ≤ 800 := h4; omega) (fun j hj => Nat.le_trans (h2 j hj) (by decide)) h3 (by omega) fun r2 => ?_
      walk_at "w"
      refine WC_times (xs := jn (trim [c]) ((pfo ps).take i)) (ys := pw qq.2.2.1 qq.2.2.2) (b + 30 * (101 * (X + 10) + 16)) (1 + qq.2.2.2 * (X + 10)) (by walk_at "rx") (by walk_at "rx") ⟨by omega, by omega⟩ jb hpb (by omega) fun r3 => ?_
      walk_at "d"
      refine Lp.sub [(r3, .lst (zV (tm (jn (trim [c]) ((pfo ps).take i)) (pw qq.2.2.1 qq.2.2.2))))] (by walk_at "sub") ?_
      refine ⟨r3, _, _, rfl, ?_, hlt⟩
      rw [pfo_take hqq, jn_snoc]
    · rintro σ f ⟨r, y1, y2, rfl, rfl, _⟩
      rw [pvs_len, ← pfo_len ps, List.take_length]
      walk_at "w"
      exact NR.sub (q r) (by walk_at "sub")

end

section
variable {P : Program} {w : World} {K : PySem.W.Frag} {mg : Str → Option Value} {base : Heap}
-- ok_raisedX ok_joined
/-- a count below nought among the pairs -/
def sp_joinedX (C : Addr) (K : PySem.W.Frag) : Sp := fun vs H Q E => ∃ (pn bt : Addr) (c m : Int) (v : V) (ps : List Pr4) (rest : List V) (b X : Nat), vs = [.int c, .ref pn] ∧ SqL K H pn (pvs ps ++ V.ref bt :: rest) ∧ Hps H ps ∧ H bt = some (.tup [v, .int m]) ∧ m < 0 ∧ JnB c (pfo ps) b X ∧ NE E (.ref C) none H []
theorem WC_joinedX {C : Addr} {K : PySem.W.Frag} {H0 : Hp} {fs : Fs} {Ψ : Value → Option Addr → Fs → Prop} {pn bt : Addr} {c m : Int} {v : V} {ps : List Pr4} {rest : List V} (b X : Nat) (h : Rl K H0 fs pn (pvs ps ++ V.ref bt :: rest)) (hp : Rps H0 fs ps) (ht : Rx H0 fs bt (.tup [v, .int m])) (hm : m < 0) (hB : JnB c (pfo ps) b X) (q : Ψ (.ref C) none fs) : WCX (sp_joinedX C K) [.int c, .ref pn] H0 fs Ψ :=
  fun H k Q E cc => ⟨pn, bt, c, m, v, ps, rest, b, X, rfl, h H k, hp.at k, ht H k, hm, hB, fun H' k' => cc _ _ _ _ (k.app k') q⟩
theorem okX_joined (T : Txt P K mg base) : FnOk P w K mg base (L2.CX P w) 44 T.a_joined T.d_joined ["number", "pairs"] (sp_joinedX T.A_NoPower K) := by
  refine T.F_joined.okX sc_joined (fun vs H Q E h => ?_) (fun cdv A outer s H vs Q E hr h => ?_)
  · obtain ⟨pn, bt, c, m, v, ps, rest, b, X, rfl, _⟩ := h; rfl
  · obtain ⟨pn, bt, c, m, v, ps, rest, b, X, rfl, hn, hps, hbt, hm, hB, q⟩ := h
    refine ⟨_, (pss_cons (ps_set (i := 2) sc_joined.nd rfl (Or.inl rfl) (pe_call (ok_made T) (hr.mono (by decide)) (by rfl) T.m_made T.F_made.kp T.b_made .nil pass0 (pa_cons (pe_lst (pa_cons (pv 0) pa_nil)) pa_nil)))
      (pss_cons (ps_for passesX rfl (pi_list (pv 1)) (pg_tup rfl (pgs_cons (pg_name (i := 3) sc_joined.nd rfl (Or.inl rfl)) (pgs_cons (pg_name (i := 4) sc_joined.nd rfl (Or.inl rfl)) pgs_nil))) (pss_one (ps_set (i := 2) sc_joined.nd rfl (Or.inl rfl) (pe_call (ok_times T) (hr.mono (by decide)) (by rfl) T.m_times T.F_times.kp T.b_times .nil pass0 (pa_cons (pv 2) (pa_cons (pe_callS (okA_raised T) (hr.mono (by decide)) (by rfl) T.m_raised T.F_raised.kp T.b_raised (fun σ => passAt (takes_of rfl rfl rfl rfl) σ) (pa_cons (pv 3) (pa_cons (pv 4) pa_nil))) pa_nil))))))
      (pss_one (ps_ret (pv 2))))), ?_⟩
    refine N.go (σ := [some (.int c), some (.ref pn), none, none, none]) ?_
    have hB' := hB
    obtain ⟨hl, hc, hq, hX⟩ := hB'
    have hcl : BdL b (trim [c]) := BdL.trim fun y hy => by rw [List.mem_singleton.mp hy]; exact hc
    have hcl1 : (trim [c]).length ≤ 1 := trim_length_le _
    walk_at "w"
    intro l1
    walk_at "w"
    refine WC_made (xs := [c]) (by walk_at "rl") (by simp) fun r0 => ?_
    walk_at "d"
    walk_at "w"
    refine N.sub [(r0, .lst (zV (trim [c])))] (by walk_at "sub") ?_
    refine S.forL (a := pn) (xs := pvs ps ++ V.ref bt :: rest) (fun i σ f => ∃ r y1 y2, σ = [some (.int c), some (.ref pn), some (.ref r), y1, y2] ∧ f = [(r, .lst (zV (jn (trim [c]) ((pfo ps).take i))))] ∧ i ≤ ps.length) ?_ ?_ ?_ ?_
    · walk_at "w"
      exact ⟨rfl, by walk_at "rl", r0, none, none, rfl, rfl, Nat.zero_le _⟩
    · rintro i σ f ⟨r, y1, y2, rfl, rfl, _⟩
      walk_at "rl"
    · rintro i x σ f hx ⟨r, y1, y2, rfl, rfl, hi⟩ H1 k1
      by_cases hil : i < ps.length
      · rw [List.getElem?_append_left (by rw [pvs_len]; exact hil)] at hx
        obtain ⟨qq, hqq, rfl⟩ := pvs_get hx
        have hmem := List.mem_of_getElem? hqq
        refine ⟨qq.1, _, rfl, SqT.of (k1.same _ _ (hps.t qq hmem)), rfl, _, _, rfl, _, _, rfl, rfl, ?_⟩
        revert H1 k1
        refine N.of ?_
        walk_at "d"
        have hq1 := hq _ (mem_pfo hmem)
        obtain ⟨h1, h2, h3, h4⟩ := hq1
        obtain ⟨jb, jl⟩ := hB.take (i := i) (by rw [pfo_len]; omega) (trim [c]) hcl1 hcl
        have hpl : (pw qq.2.2.1 qq.2.2.2).length ≤ 800 := h2 _ (Nat.le_refl _)
        have hpb := pw_bd (c := 10) h3 qq.2.2.2 fun j hj => Nat.le_trans (h2 j (by show j ≤ qq.2.2.2; omega)) (by decide)
        have hm' : qq.2.2.2 * (X + 10) ≤ 100 * (X + 10) := Nat.mul_le_mul_right _ h1
        have hm2 : (qq.2.2.2 + 1) * (X + 12) ≤ 101 * (X + 12) := Nat.mul_le_mul_right _ (Nat.succ_le_succ h1)
        have h1' : qq.2.2.2 ≤ 100 := h1
        have hp1 := hps.l qq hmem
        walk_at "w"
        refine W.callB ?_
        walk_at "w"
        refine WCB_raisedA (xs := qq.2.2.1) (c := qq.2.2.2) X (by walk_at "rx") (by omega) (by show qq.2.2.1.length ≤ 4000; have : qq.2.2.1.length ≤ 800 := h4; omega) (fun j hj => Nat.le_trans (h2 j hj) (by decide)) h3 (by omega) fun r2 => ?_
        walk_at "w"
        refine WC_times (xs := jn (trim [c]) ((pfo ps).take i)) (ys := pw qq.2.2.1 qq.2.2.2) (b + 30 * (101 * (X + 10) + 16)) (1 + qq.2.2.2 * (X + 10)) (by walk_at "rx") (by walk_at "rx") ⟨by omega, by omega⟩ jb hpb (by omega) fun r3 => ?_
        walk_at "d"
        refine Lp.sub [(r3, .lst (zV (tm (jn (trim [c]) ((pfo ps).take i)) (pw qq.2.2.1 qq.2.2.2))))] (by walk_at "sub") ?_
        refine ⟨r3, _, _, rfl, ?_, hil⟩
        rw [pfo_take hqq, jn_snoc]
      · have e : i = ps.length := by omega
        subst e
        rw [List.getElem?_append_right (by rw [pvs_len]; omega), pvs_len, Nat.sub_self] at hx
        have e2 : x = .ref bt := (Option.some.inj hx).symm
        subst e2
        refine ⟨bt, _, rfl, SqT.of (k1.same _ _ hbt), rfl, _, _, rfl, _, _, rfl, rfl, ?_⟩
        revert H1 k1
        refine N.of ?_
        walk_at "d"
        walk_at "w"
        refine W.callX ?_
        walk_at "w"
        refine WCX_raisedA hm ?_
        exact fun H' k => q H' (k.sub (by walk_at "sub"))
    · rintro σ f ⟨r, y1, y2, rfl, rfl, hh⟩
      rw [List.length_append, pvs_len, List.length_cons] at hh
      omega

end

section
variable {P : Program} {w : World} {K : PySem.W.Frag} {mg : Str → Option Value} {base : Heap}
/-- what no_square asks of sizes -/
structure NsB (row : List Int) (b : Nat) : Prop where
  t : Tr row
  l : row.length ≤ 13
  bd : BdL b row
  b9 : 1 ≤ b ∧ b ≤ 9000
  go : slp row ≠ [] → Go E2 row.length (row.length - 1) b (b + 4) 1 1 b (b + 4)
def sp_no_square : Sp := fun vs H Q _ => ∃ (a : Addr) (row : List Int) (b : Nat), vs = [.ref a] ∧ H a = some (.lst (zV row)) ∧ NsB row b ∧ (row = [] → NR Q .non H []) ∧
  (row ≠ [] → ∀ x s t u v n, Mt row (slp row) x s t u v n → PpB u v n → (1 < x.length → NR Q .non H []) ∧ (x = [1] → ∀ p4 p5 tp, NR Q (.ref tp) H [(tp, .tup [.ref p4, .ref p5, .int n]), (p5, .lst (zV v)), (p4, .lst (zV u))]))
theorem WC_no_square {H0 : Hp} {fs : Fs} {Φ : CV} {a : Addr} {row : List Int} (b : Nat) (h : Rx H0 fs a (.lst (zV row))) (hB : NsB row b) (c0 : row = [] → Φ .non fs)
    (c : row ≠ [] → ∀ x s t u v n, Mt row (slp row) x s t u v n → PpB u v n → (1 < x.length → Φ .non fs) ∧ (x = [1] → ∀ p4 p5 tp, Φ (.ref tp) ((tp, .tup [.ref p4, .ref p5, .int n]) :: (p5, .lst (zV v)) :: (p4, .lst (zV u)) :: fs))) : WC sp_no_square [.ref a] H0 fs Φ :=
  fun H k Q E cc => ⟨a, row, b, rfl, h H k, hB, fun h0 H' k' => cc _ _ _ (k.app k') (c0 h0), fun hne x s t u v n hm hp => ⟨fun hl H' k' => cc _ _ _ (k.app k') ((c hne x s t u v n hm hp).1 hl), fun hl p4 p5 tp H' k' => cc _ _ _ (k.app k') ((c hne x s t u v n hm hp).2 hl p4 p5 tp)⟩⟩
theorem ok_no_square (T : Txt P K mg base) : FnOk P w K mg base CX0 47 T.a_no_square T.d_no_square ["row"] sp_no_square := by
  refine T.F_no_square.ok sc_no_square (fun vs H Q E h => ?_) (fun cdv A outer s H vs Q E hr h => ?_)
  · obtain ⟨a, row, b, rfl, _⟩ := h; rfl
  · obtain ⟨a, row, b, rfl, ha, hB, c0, c⟩ := h
    obtain ⟨htr, hl13, hbd, hb9, hgo⟩ := hB
    refine ⟨_, (pss_cons (ps_if (pt_cmpR (op_eqD hr.units) (pv 0) (pe_lst pa_nil) (nomark _)) (pss_one (ps_ret pe_non)) pss_nil)
      (pss_cons (ps_set (i := 1) sc_no_square.nd rfl (Or.inl rfl) (pe_call (ok_meet T) (hr.mono (by decide)) (by rfl) T.m_meet T.F_meet.kp T.b_meet .nil pass0 (pa_cons (pv 0) (pa_cons (pe_call (ok_slope T) (hr.mono (by decide)) (by rfl) T.m_slope T.F_slope.kp T.b_slope .nil pass0 (pa_cons (pv 0) pa_nil)) pa_nil))))
      (pss_cons (ps_if (pt_cmpR op_gt (pe_callB cLen (by rfl) T.z_len PySem.boot_len (pa_cons (pe_ix ix_tup (pv 1) pe_int (fun _ _ => rfl)) pa_nil)) pe_int (nomark _)) (pss_one (ps_ret pe_non)) pss_nil)
      (pss_one (ps_ret (pe_tup (pa_cons (pe_ix ix_tup (pv 1) pe_int (fun _ _ => rfl)) (pa_cons (pe_ix ix_tup (pv 1) pe_int (fun _ _ => rfl)) (pa_cons (pe_ix ix_tup (pv 1) pe_int (fun _ _ => rfl)) pa_nil))))))))), ?_⟩
    refine N.go (σ := [some (.ref a), none]) ?_
    walk_at "w"
    intro z
    walk_at "w"
    by_cases hne : row = []
    · rw [decide_eq_true hne]
      walk_at "w"
      exact NR.sub (c0 hne) (by walk_at "sub")
    rw [decide_eq_false hne]
    walk_at "w"
    refine WC_slope (xs := row) b (by walk_at "rx") (by omega) hbd (by omega) fun psl => ?_
    walk_at "w"
    have hsl := slp_len row
    have hslb : BdL (b + 4) (slp row) := (slp_bd hbd (by omega)).mono (by omega)
    refine WC_meet (xs := row) (ys := slp row) b (b + 4) E2 (by walk_at "rx") (by walk_at "rx") ⟨by omega, by omega⟩ htr (slp_tr htr) (.inl hne) ⟨hbd, hslb, by omega, by omega⟩
      (fun h => by rw [hsl]; exact hgo h) (fun _ => ⟨by omega, by omega, by omega⟩) (MtQ.own htr hne (by omega) hbd (by omega) (by omega) (by omega)) fun x s t u v n a' c' d' hM hE hxb hub hvb hnb _ hxl p1 p2 p3 p4 p5 p => ?_
    obtain ⟨i1, i2⟩ := c hne x s t u v n hM ⟨hub.mono hE.1, hvb.mono hE.1, hnb.mono hE.2.1, hxl.2.1, hxl.2.2⟩
    walk_at "d"
    walk_at "w"
    walk_at "if"
    · rename_i hh
      walk_at "w"
      exact NR.sub (i1 (by omega)) (by walk_at "sub")
    · rename_i hh
      walk_at "w"
      refine ⟨by simp, fun tp => ?_⟩
      exact NR.sub (i2 (hM.smp.one (by omega)) p4 p5 tp) (by walk_at "sub")

end

section
variable {P : Program} {w : World} {K : PySem.W.Frag} {mg : Str → Option Value} {base : Heap}
/-- on ints -/
def sp__law_whole : Sp := fun vs H Q _ => ∃ (i : Int), vs = [.int i] ∧ NR Q (.bl true) H []
theorem WC__law_whole {H0 : Hp} {fs : Fs} {Φ : CV} {i : Int} (q : Φ (.bl true) fs) : WC sp__law_whole [.int i] H0 fs Φ := fun H k Q E c => ⟨i, rfl, fun H' k' => c _ _ _ (k.app k') q⟩
theorem ok__law_whole (T : Txt P K mg base) : FnOk P w K mg base CX0 41 T.a__law_whole T.d__law_whole ["_law_found"] sp__law_whole := by
  refine T.F__law_whole.ok sc__law_whole (fun vs H Q E h => ?_) (fun cdv A outer s H vs Q E hr h => ?_)
  · obtain ⟨i, rfl, _⟩ := h; rfl
  · obtain ⟨i, rfl, q⟩ := h
    refine ⟨_, (pss_one (ps_ret (pe_and (pe_callB call_isi (by rfl) T.z_isinstance (by decide +kernel) (pa_cons (pv 0) (pa_cons (pe_bltn (v := .ty "int") (by rfl) T.z_int (by decide +kernel) rfl) pa_nil))) (pe_one (pe_not (pe_callB call_isi (by rfl) T.z_isinstance (by decide +kernel) (pa_cons (pv 0) (pa_cons (pe_bltn (v := .ty "bool") (by rfl) T.z_bool (by decide +kernel) rfl) pa_nil)))))))), ?_⟩
    refine N.go (σ := [some (.int i)]) ?_
    walk_at "w"
    walk_at "fin"

end

section
variable {P : Program} {w : World} {K : PySem.W.Frag} {mg : Str → Option Value} {base : Heap}
def sp__law_cell_at (K : PySem.W.Frag) : Sp := fun vs H Q _ => ∃ (a : Addr) (ns : List Int) (i : Int), vs = [.ref a, .int i] ∧ SqL K H a (zV ns) ∧ 0 ≤ i ∧ NR Q (.int (gat ns i)) H []
theorem WC__law_cell_at {K : PySem.W.Frag} {H0 : Hp} {fs : Fs} {Φ : CV} {a : Addr} {ns : List Int} {i : Int} (h : Rl K H0 fs a (zV ns)) (hi : 0 ≤ i) (q : Φ (.int (gat ns i)) fs) : WC (sp__law_cell_at K) [.ref a, .int i] H0 fs Φ :=
  fun H k Q E c => ⟨a, ns, i, rfl, h H k, hi, fun H' k' => c _ _ _ (k.app k') q⟩
theorem ok__law_cell_at (T : Txt P K mg base) : FnOk P w K mg base CX0 41 T.a__law_cell_at T.d__law_cell_at ["_law_script", "_law_k"] (sp__law_cell_at K) := by
  refine T.F__law_cell_at.ok sc__law_cell_at (fun vs H Q E h => ?_) (fun cdv A outer s H vs Q E hr h => ?_)
  · obtain ⟨a, ns, i, rfl, _⟩ := h; rfl
  · obtain ⟨a, ns, i, rfl, hS, h0, q⟩ := h
    refine ⟨_, (pss_cons (ps_if (pt_cmpR op_lt (pv 1) (pe_callB cLen (by rfl) T.z_len PySem.boot_len (pa_cons (pv 0) pa_nil)) (nomark _)) (pss_one (ps_ret (pe_ix ix_list (pv 0) (pv 1) (fun _ _ => rfl)))) pss_nil)
      (pss_one (ps_ret pe_int))), ?_⟩
    refine N.go (σ := [some (.ref a), some (.int i)]) ?_
    walk_at "w"
    walk_at "if"
    · walk_at "w"
      walk_at "fin"
    · walk_at "w"
      have e : gat ns i = 0 := by
        unfold gat
        rw [List.getD_eq_getElem?_getD, List.getElem?_eq_none (by omega)]; rfl
      rw [e] at q
      walk_at "fin"

end

section
variable {P : Program} {w : World} {K : PySem.W.Frag} {mg : Str → Option Value} {base : Heap}
def sp__law_trim : Sp := fun vs H Q _ => ∃ (a : Addr) (xs : List Int), vs = [.ref a] ∧ H a = some (.lst (zV xs)) ∧ xs.length ≤ 100000 ∧ ∀ p, NR Q (.ref p) H [(p, .lst (zV (trim xs)))]
theorem WC__law_trim {H0 : Hp} {fs : Fs} {Φ : CV} {a : Addr} {xs : List Int} (h : Rx H0 fs a (.lst (zV xs))) (hl : xs.length ≤ 100000) (q : ∀ p, Φ (.ref p) ((p, .lst (zV (trim xs))) :: fs)) : WC sp__law_trim [.ref a] H0 fs Φ :=
  fun H k Q E c => ⟨a, xs, rfl, h H k, hl, fun p H' k' => c _ _ _ (k.app k') (q p)⟩
theorem ok__law_trim (T : Txt P K mg base) : FnOk P w K mg base CX0 41 T.a__law_trim T.d__law_trim ["_law_row_here"] sp__law_trim := by
  refine T.F__law_trim.ok sc__law_trim (fun vs H Q E h => ?_) (fun cdv A outer s H vs Q E hr h => ?_)
  · obtain ⟨a, xs, rfl, _⟩ := h; rfl
  · obtain ⟨a, xs, rfl, hA, hl, q⟩ := h
    refine ⟨_, (pss_cons (ps_set (i := 1) sc__law_trim.nd rfl (Or.inl rfl) (pe_callB cLen (by rfl) T.z_len PySem.boot_len (pa_cons (pv 0) pa_nil)))
      (pss_cons (ps_while PassesOwn.never (PW.pt (pw_and (pt_cmpR op_gt (pv 1) pe_int (nomark _)) (pw_and1 (pt_cmpR op_eq (pe_ix ix_list (pv 0) (pe_op op_sub (pv 1) pe_int) (fun _ _ => rfl)) pe_int (nomark _))))) (pss_one (ps_set (i := 1) sc__law_trim.nd rfl (Or.inl rfl) (pe_op op_sub (pv 1) pe_int))))
      (pss_one (ps_ret (pe_slice sl_list (pv 0) po_none (po_some (pv 1))))))), ?_⟩
    refine N.go (σ := [some (.ref a), none]) ?_
    walk_at "w"
    refine S.while_ (fun m σ f => σ = [some (.ref a), some (.int (m : Int))] ∧ f = [] ∧ m ≤ xs.length ∧ trim xs = trim (xs.take m)) xs.length ⟨rfl, rfl, Nat.le_refl _, by rw [List.take_length]⟩ ?_
    rintro m σ f ⟨rfl, rfl, hm, ht⟩
    walk_at "w"
    walk_at "if"
    · walk_at "w"
      walk_at "if"
      · -- one nought less
        walk_at "w"
        rename_i h1 h2
        have em : ((m : Int) - 1) = ((m - 1 : Nat) : Int) := by omega
        rw [em]
        refine Wl.nx (m' := m - 1) (by omega) ⟨rfl, rfl, by omega, ?_⟩
        rw [ht]
        have e2 : m = (m - 1) + 1 := by omega
        rw [em, gat_nat] at h2
        rw [e2, take_succ_getD (by omega : m - 1 < xs.length), h2, trim_zero]
        rfl
      · walk_at "w"
        rename_i h1 h2
        intro l
        have em : ((m : Int) - 1) = ((m - 1 : Nat) : Int) := by omega
        have e2 : m = (m - 1) + 1 := by omega
        rw [em, gat_nat] at h2
        have e3 : trim xs = xs.take m := by
          rw [ht, e2, take_succ_getD (by omega : m - 1 < xs.length), trim_last _ h2]
        rw [e3] at q
        have e4 : ((m : Int)).toNat = m := by simp
        rw [e4]
        exact NR.sub (q l) (by walk_at "sub")
    · walk_at "w"
      rename_i h1
      intro l
      have e0 : m = 0 := by omega
      subst e0
      have e3 : trim xs = [] := by rw [ht]; rfl
      rw [e3] at q
      exact NR.sub (q l) (by walk_at "sub")

end

section
variable {P : Program} {w : World} {K : PySem.W.Frag} {mg : Str → Option Value} {base : Heap}
/-- the same numbers -/
def sp__law_same : Sp := fun vs H Q _ => ∃ (a b : Addr) (xs : List Int), vs = [.ref a, .ref b] ∧ H a = some (.lst (zV xs)) ∧ H b = some (.lst (zV xs)) ∧ xs.length ≤ 100000 ∧ NR Q (.bl true) H []
theorem WC__law_same {H0 : Hp} {fs : Fs} {Φ : CV} {a b : Addr} {xs : List Int} (h : Rx H0 fs a (.lst (zV xs))) (h2 : Rx H0 fs b (.lst (zV xs))) (hl : xs.length ≤ 100000) (q : Φ (.bl true) fs) : WC sp__law_same [.ref a, .ref b] H0 fs Φ :=
  fun H k Q E c => ⟨a, b, xs, rfl, h H k, h2 H k, hl, fun H' k' => c _ _ _ (k.app k') q⟩
theorem ok__law_same (T : Txt P K mg base) : FnOk P w K mg base CX0 42 T.a__law_same T.d__law_same ["_law_found", "_law_due"] sp__law_same := by
  refine T.F__law_same.ok sc__law_same (fun vs H Q E h => ?_) (fun cdv A outer s H vs Q E hr h => ?_)
  · obtain ⟨a, b, xs, rfl, _⟩ := h; rfl
  · obtain ⟨a, b, xs, rfl, hA, hB, hl, q⟩ := h
    refine ⟨_, (pss_cons (ps_if (PW.pt (pw_or (pt_not (pt_val (pe_callB call_isi (by rfl) T.z_isinstance (by decide +kernel) (pa_cons (pv 0) (pa_cons (pe_bltn (v := .ty "list") (by rfl) T.z_list (by decide +kernel) rfl) pa_nil))))) (pw_or1 (pt_cmpR op_ne (pe_callB cLen (by rfl) T.z_len PySem.boot_len (pa_cons (pv 0) pa_nil)) (pe_callB cLen (by rfl) T.z_len PySem.boot_len (pa_cons (pv 1) pa_nil)) (nomark _))))) (pss_one (ps_ret pe_bl)) pss_nil)
      (pss_cons (ps_for PassesOwn.never rfl (pi_range1 rfl T.z_range (pa_cons (pe_callB cLen (by rfl) T.z_len PySem.boot_len (pa_cons (pv 1) pa_nil)) pa_nil)) (pg_name (i := 2) sc__law_same.nd rfl (Or.inl rfl)) (pss_one (ps_if (PW.pt (pw_or (pt_not (pt_val (pe_call (ok__law_whole T) (hr.mono (by decide)) (by rfl) T.m__law_whole T.F__law_whole.kp T.b__law_whole .nil pass0 (pa_cons (pe_ix ix_list (pv 0) (pv 2) (fun _ _ => rfl)) pa_nil)))) (pw_or1 (pt_cmpR op_ne (pe_ix ix_list (pv 0) (pv 2) (fun _ _ => rfl)) (pe_ix ix_list (pv 1) (pv 2) (fun _ _ => rfl)) (nomark _))))) (pss_one (ps_ret pe_bl)) pss_nil)))
      (pss_one (ps_ret pe_bl)))), ?_⟩
    refine N.go (σ := [some (.ref a), some (.ref b), none]) ?_
    walk_at "w"
    walk_at "if"
    walk_at "w"
    refine S.forR (n := (xs.length : Int)) (fun i σ f => (∃ y, σ = [some (.ref a), some (.ref b), y]) ∧ f = []) ?_ ?_ ?_
    · walk_at "w"
      exact ⟨rfl, by omega, by omega, ⟨_, rfl⟩, rfl⟩
    · rintro i σ f hi ⟨⟨y, rfl⟩, rfl⟩
      walk_at "d"
      walk_at "w"
      refine WC__law_whole ?_
      walk_at "w"
      walk_at "if"
      walk_at "w"
      walk_at "lp"
      exact ⟨⟨_, rfl⟩, rfl⟩
    · rintro σ f ⟨⟨y, rfl⟩, rfl⟩
      walk_at "w"
      walk_at "fin"

end

section
variable {P : Program} {w : World} {K : PySem.W.Frag} {mg : Str → Option Value} {base : Heap}
def sp__law_times : Sp := fun vs H Q _ => ∃ (a b : Addr) (xs ys : List Int) (m n : Nat), vs = [.ref a, .ref b] ∧ H a = some (.lst (zV xs)) ∧ H b = some (.lst (zV ys)) ∧ (xs.length ≤ 40000 ∧ ys.length ≤ 40000) ∧ BdL m xs ∧ BdL n ys ∧ m + n ≤ 134217728 ∧ ∀ p, NR Q (.ref p) H [(p, .lst (zV (tm xs ys)))]
theorem WC__law_times {H0 : Hp} {fs : Fs} {Φ : CV} {a b : Addr} {xs ys : List Int} (m n : Nat) (h : Rx H0 fs a (.lst (zV xs))) (h2 : Rx H0 fs b (.lst (zV ys))) (hl : xs.length ≤ 40000 ∧ ys.length ≤ 40000) (hm : BdL m xs) (hn : BdL n ys) (hmn : m + n ≤ 134217728)
    (q : ∀ p, Φ (.ref p) ((p, .lst (zV (tm xs ys))) :: fs)) : WC sp__law_times [.ref a, .ref b] H0 fs Φ :=
  fun H k Q E c => ⟨a, b, xs, ys, m, n, rfl, h H k, h2 H k, hl, hm, hn, hmn, fun p H' k' => c _ _ _ (k.app k') (q p)⟩
theorem ok__law_times (T : Txt P K mg base) : FnOk P w K mg base CX0 42 T.a__law_times T.d__law_times ["_law_ones", "_law_others"] sp__law_times := by
  refine T.F__law_times.ok sc__law_times (fun vs H Q E h => ?_) (fun cdv A outer s H vs Q E hr h => ?_)
  · obtain ⟨a, b, xs, ys, m, n, rfl, _⟩ := h; rfl
  · obtain ⟨a, b, xs, ys, m, n, rfl, hA, hB, hl, hm, hn, hmn, q⟩ := h
    refine ⟨_, (pss_cons (ps_set (i := 2) sc__law_times.nd rfl (Or.inl rfl) (pe_op op_rep (pe_lst (pa_cons pe_int pa_nil)) (pe_op op_add (pe_callB cLen (by rfl) T.z_len PySem.boot_len (pa_cons (pv 0) pa_nil)) (pe_callB cLen (by rfl) T.z_len PySem.boot_len (pa_cons (pv 1) pa_nil)))))
      (pss_cons (ps_for PassesOwn.never rfl (pi_range1 rfl T.z_range (pa_cons (pe_callB cLen (by rfl) T.z_len PySem.boot_len (pa_cons (pv 0) pa_nil)) pa_nil)) (pg_name (i := 3) sc__law_times.nd rfl (Or.inl rfl)) (pss_one (ps_for PassesOwn.never rfl (pi_range1 rfl T.z_range (pa_cons (pe_callB cLen (by rfl) T.z_len PySem.boot_len (pa_cons (pv 1) pa_nil)) pa_nil)) (pg_name (i := 4) sc__law_times.nd rfl (Or.inl rfl)) (pss_one (ps_asg (pe_op op_add (pe_ix ix_list (pv 2) (pe_op op_add (pv 3) (pv 4)) (fun _ _ => rfl)) (pe_op op_mulG (pe_ix ix_list (pv 0) (pv 3) (fun _ _ => rfl)) (pe_ix ix_list (pv 1) (pv 4) (fun _ _ => rfl)))) (pg_sub (pv 2) (pe_op op_add (pv 3) (pv 4)) set_list))))))
      (pss_one (ps_ret (pe_call (ok__law_trim T) (hr.mono (by decide)) (by rfl) T.m__law_trim T.F__law_trim.kp T.b__law_trim .nil pass0 (pa_cons (pv 2) pa_nil)))))), ?_⟩
    refine N.go (σ := [some (.ref a), some (.ref b), none, none, none]) ?_
    walk_at "w"
    intro z
    walk_at "w"
    refine RW.rep (x := 0) (by walk_at "rx") (by omega) fun p => ?_
    have e0 : ((xs.length : Int) + (ys.length : Int)).toNat = xs.length + ys.length := by omega
    rw [e0]
    walk_at "d"
    walk_at "w"
    refine S.forR (n := (xs.length : Int)) (fun i σ f => ∃ y1 y2, σ = [some (.ref a), some (.ref b), some (.ref p), y1, y2] ∧ f = [(p, .lst (zV (lp (tmRow xs ys) i (List.replicate (xs.length + ys.length) 0)))), (z, .lst (zV [0]))]) ?_ ?_ ?_
    · walk_at "w"
      refine ⟨rfl, by omega, by omega, none, none, rfl, rfl⟩
    · rintro i σ f hi ⟨y1, y2, rfl, rfl⟩
      walk_at "d"
      have hacc : (lp (tmRow xs ys) i (List.replicate (xs.length + ys.length) 0)).length = xs.length + ys.length := by
        rw [lp_len (fun i a => tmRow_len _ _ _ _), List.length_replicate]
      have hnext : lp (tmRow xs ys) (i + 1) (List.replicate (xs.length + ys.length) 0) = tmRow xs ys i (lp (tmRow xs ys) i (List.replicate (xs.length + ys.length) 0)) := rfl
      rw [show (fun (i : Nat) (σ : St) (f : Fs) => ∃ y1 y2, σ = [some (.ref a), some (.ref b), some (.ref p), y1, y2] ∧ f = [(p, .lst (zV (lp (tmRow xs ys) i (List.replicate (xs.length + ys.length) 0)))), (z, .lst (zV [0]))]) = (fun (i : Nat) (σ : St) (f : Fs) => ∃ y1 y2, σ = [some (.ref a), some (.ref b), some (.ref p), y1, y2] ∧ f = [(p, .lst (zV (lp (tmRow xs ys) i (List.replicate (xs.length + ys.length) 0)))), (z, .lst (zV [0]))]) from rfl]
      generalize hA0 : lp (tmRow xs ys) i (List.replicate (xs.length + ys.length) 0) = acc at hacc hnext
      refine S.forR (n := (ys.length : Int)) (fun k σ f => ∃ y2, σ = [some (.ref a), some (.ref b), some (.ref p), some (.int (i : Int)), y2] ∧ f = [(p, .lst (zV (lp (tmIn (xs.getD i 0) ys i) k acc))), (z, .lst (zV [0]))]) ?_ ?_ ?_
      · walk_at "w"
        refine ⟨rfl, by omega, by omega, y2, rfl, rfl⟩
      · rintro k σ f hk ⟨y2, rfl, rfl⟩
        walk_at "d"
        have hlen : (lp (tmIn (xs.getD i 0) ys i) k acc).length = xs.length + ys.length := by
          rw [lp_len (fun i a => tmIn_len _ _ _ _ _)]; exact hacc
        have hok : IntMulOk (gat xs (i : Int)) (gat ys (k : Int)) := mulB (hm.gat _) (hn.gat _) hmn
        refine S.setL ?_
        walk_at "w"
        walk_at "set1"
        · rw [zV_length, hlen]; omega
        have ei : ((i : Int) + (k : Int)) = ((i + k : Nat) : Int) := by omega
        have e1 : ((i : Int) + (k : Int)).toNat = i + k := by omega
        rw [e1, zV_set, ei, gat_nat, gat_nat, gat_nat]
        walk_at "d"
        walk_at "lp"
        exact ⟨_, rfl, rfl⟩
      · rintro σ f ⟨y2, rfl, rfl⟩
        have ek : ((ys.length : Int)).toNat = ys.length := by simp
        rw [ek]
        walk_at "lp"
        refine ⟨_, y2, rfl, ?_⟩
        rw [hnext]
        rfl
    · rintro σ f ⟨y1, y2, rfl, rfl⟩
      have ek : ((xs.length : Int)).toNat = xs.length := by simp
      rw [ek]
      walk_at "w"
      have hlen := tmRaw_len xs ys
      refine WC__law_trim (xs := tmRaw xs ys) (by walk_at "rx") (by omega) fun r => ?_
      exact NR.sub (q r) (by walk_at "sub")

end

section
variable {P : Program} {w : World} {K : PySem.W.Frag} {mg : Str → Option Value} {base : Heap}
def sp__law_greatest : Sp := fun vs H Q _ => ∃ (i j : Int), vs = [.int i, .int j] ∧ NR Q (.int (Nat.gcd i.natAbs j.natAbs : Nat)) H []
theorem WC__law_greatest {H0 : Hp} {fs : Fs} {Φ : CV} {i j : Int} (q : Φ (.int (Nat.gcd i.natAbs j.natAbs : Nat)) fs) : WC sp__law_greatest [.int i, .int j] H0 fs Φ :=
  fun H k Q E c => ⟨i, j, rfl, fun H' k' => c _ _ _ (k.app k') q⟩
theorem ok__law_greatest (T : Txt P K mg base) : FnOk P w K mg base CX0 41 T.a__law_greatest T.d__law_greatest ["_law_one", "_law_other"] sp__law_greatest := by
  refine T.F__law_greatest.ok sc__law_greatest (fun vs H Q E h => ?_) (fun cdv A outer s H vs Q E hr h => ?_)
  · obtain ⟨i, j, rfl, _⟩ := h; rfl
  · obtain ⟨i, j, rfl, q⟩ := h
    refine ⟨_, (pss_cons (ps_set (i := 0) sc__law_greatest.nd rfl (Or.inl rfl) (pe_callB cAbs (by rfl) T.z_abs (by decide +kernel) (pa_cons (pv 0) pa_nil)))
      (pss_cons (ps_set (i := 1) sc__law_greatest.nd rfl (Or.inl rfl) (pe_callB cAbs (by rfl) T.z_abs (by decide +kernel) (pa_cons (pv 1) pa_nil)))
      (pss_cons (ps_while PassesOwn.never (pt_cmpR op_gt (pv 1) pe_int (nomark _)) (pss_cons (ps_set (i := 2) sc__law_greatest.nd rfl (Or.inl rfl) (pe_op op_mod (pv 0) (pv 1)))
      (pss_cons (ps_set (i := 0) sc__law_greatest.nd rfl (Or.inl rfl) (pv 1))
      (pss_one (ps_set (i := 1) sc__law_greatest.nd rfl (Or.inl rfl) (pv 2))))))
      (pss_one (ps_ret (pv 0)))))), ?_⟩
    refine N.go (σ := [some (.int i), some (.int j), none]) ?_
    walk_at "w"
    walk_at "d"
    walk_at "w"
    walk_at "d"
    walk_at "w"
    refine S.while_ (fun m σ f => ∃ x z, σ = [some (.int ((x : Nat) : Int)), some (.int (m : Int)), z] ∧ f = [] ∧ Nat.gcd x m = Nat.gcd i.natAbs j.natAbs) j.natAbs ⟨i.natAbs, none, rfl, rfl, rfl⟩ ?_
    rintro m σ f ⟨x, z, rfl, rfl, hg⟩
    walk_at "w"
    walk_at "if"
    · rename_i hp
      have hm : 0 < m := by omega
      walk_at "w"
      walk_at "d"
      walk_at "w"
      walk_at "d"
      walk_at "w"
      walk_at "d"
      have e : ((x : Int) % (m : Int)) = ((x % m : Nat) : Int) := (Int.natCast_emod x m).symm
      rw [e]
      refine Wl.nx (m' := x % m) (Nat.mod_lt _ hm) ⟨m, _, rfl, rfl, ?_⟩
      rw [← hg, Nat.gcd_comm x m, Nat.gcd_rec m x, Nat.gcd_comm]
    · rename_i hp
      have hm : m = 0 := by omega
      subst hm
      rw [Nat.gcd_zero_right] at hg
      walk_at "w"
      rw [hg]
      exact NR.sub q (by walk_at "sub")

end

section
variable {P : Program} {w : World} {K : PySem.W.Frag} {mg : Str → Option Value} {base : Heap}
def sp__law_plus : Sp := fun vs H Q _ => ∃ (a b : Addr) (xs ys : List Int), vs = [.ref a, .ref b] ∧ H a = some (.lst (zV xs)) ∧ H b = some (.lst (zV ys)) ∧ (xs.length ≤ 90000 ∧ ys.length ≤ 90000) ∧ ∀ p, NR Q (.ref p) H [(p, .lst (zV (plus xs ys)))]
theorem WC__law_plus {H0 : Hp} {fs : Fs} {Φ : CV} {a b : Addr} {xs ys : List Int} (h : Rx H0 fs a (.lst (zV xs))) (h2 : Rx H0 fs b (.lst (zV ys))) (hl : xs.length ≤ 90000 ∧ ys.length ≤ 90000) (q : ∀ p, Φ (.ref p) ((p, .lst (zV (plus xs ys))) :: fs)) : WC sp__law_plus [.ref a, .ref b] H0 fs Φ :=
  fun H k Q E c => ⟨a, b, xs, ys, rfl, h H k, h2 H k, hl, fun p H' k' => c _ _ _ (k.app k') (q p)⟩
theorem gat_app_zeros (xs : List Int) (k : Nat) (i : Int) : gat (xs ++ List.replicate k 0) i = gat xs i := getD_app_zeros xs k i.toNat
theorem ok__law_plus (T : Txt P K mg base) : FnOk P w K mg base CX0 42 T.a__law_plus T.d__law_plus ["_law_ones", "_law_others"] sp__law_plus := by
  refine T.F__law_plus.ok sc__law_plus (fun vs H Q E h => ?_) (fun cdv A outer s H vs Q E hr h => ?_)
  · obtain ⟨a, b, xs, ys, rfl, _⟩ := h; rfl
  · obtain ⟨a, b, xs, ys, rfl, hA, hB, hl, q⟩ := h
    refine ⟨_, (pss_cons (ps_set (i := 2) sc__law_plus.nd rfl (Or.inl rfl) (pe_callB (cMax2 rfl) (by rfl) T.z_max (by decide +kernel) (pa_cons (pe_callB cLen (by rfl) T.z_len PySem.boot_len (pa_cons (pv 0) pa_nil)) (pa_cons (pe_callB cLen (by rfl) T.z_len PySem.boot_len (pa_cons (pv 1) pa_nil)) pa_nil))))
      (pss_cons (ps_set (i := 0) sc__law_plus.nd rfl (Or.inr rfl) (pe_op op_cat (pv 0) (pe_op op_rep (pe_lst (pa_cons pe_int pa_nil)) (pe_op op_sub (pv 2) (pe_callB cLen (by rfl) T.z_len PySem.boot_len (pa_cons (pv 0) pa_nil))))))
      (pss_cons (ps_set (i := 1) sc__law_plus.nd rfl (Or.inr rfl) (pe_op op_cat (pv 1) (pe_op op_rep (pe_lst (pa_cons pe_int pa_nil)) (pe_op op_sub (pv 2) (pe_callB cLen (by rfl) T.z_len PySem.boot_len (pa_cons (pv 1) pa_nil))))))
      (pss_one (ps_ret (pe_call (ok__law_trim T) (hr.mono (by decide)) (by rfl) T.m__law_trim T.F__law_trim.kp T.b__law_trim .nil pass0 (pa_cons (pe_lc (own := [("_law_k", 3)]) (g := gName 3) (tt := tYes) rfl sc__law_plus.nd (pi_range1 rfl T.z_range (pa_cons (pv 2) pa_nil)) (blkOk_by (own := [("_law_k", 3)]) (N := ["_law_ones", "_law_others", "_law_size", "_law_k"]) (sc := defScope s__law_plus) (by decide +kernel)) (fun _ _ _ _ _ => pg_name (i := 3) sc__law_plus.nd rfl (Or.inl rfl)) (fun _ _ _ _ _ => pts_nil) (fun _ _ _ _ _ => (pe_op op_add (pe_ix (ix_listK (K := K) rfl) (pv 0) (pv 3) (fun _ _ => rfl)) (pe_ix (ix_listK (K := K) rfl) (pv 1) (pv 3) (fun _ _ => rfl))))) pa_nil))))))), ?_⟩
    refine N.go (σ := [some (.ref a), some (.ref b), none, none]) ?_
    walk_at "w"
    walk_at "d"
    walk_at "w"
    intro z
    walk_at "w"
    refine RW.rep (x := 0) (by walk_at "rx") (by omega) fun p => ?_
    refine RW.catZ (xs := xs) (ys := List.replicate (max (xs.length : Int) (ys.length : Int) - (xs.length : Int)).toNat 0) (by walk_at "rx") (by walk_at "rx") (by rw [List.length_replicate]; omega) fun r => ?_
    walk_at "d"
    walk_at "w"
    intro z2
    walk_at "w"
    refine RW.rep (x := 0) (by walk_at "rx") (by omega) fun p2 => ?_
    refine RW.catZ (xs := ys) (ys := List.replicate (max (xs.length : Int) (ys.length : Int) - (ys.length : Int)).toNat 0) (by walk_at "rx") (by walk_at "rx") (by rw [List.length_replicate]; omega) fun r2 => ?_
    walk_at "d"
    walk_at "w"
    refine W.lcRz (n := max (xs.length : Int) (ys.length : Int)) (fun k => gat xs (k : Int) + gat ys (k : Int)) ?_
    walk_at "w"
    refine ⟨rfl, by omega, by omega, fun _ => rfl, fun i D acc hi => ?_, fun D => ?_⟩
    · walk_at "d"
      have h1 : 0 ≤ (i : Int) ∧ (i : Int) < ((xs ++ List.replicate (max (xs.length : Int) (ys.length : Int) - (xs.length : Int)).toNat 0).length : Int) := by
        rw [List.length_append, List.length_replicate]; omega
      have h2 : 0 ≤ (i : Int) ∧ (i : Int) < ((ys ++ List.replicate (max (xs.length : Int) (ys.length : Int) - (ys.length : Int)).toNat 0).length : Int) := by
        rw [List.length_append, List.length_replicate]; omega
      walk_at "w"
      rw [gat_app_zeros, gat_app_zeros]
      exact ⟨rfl, by walk_at "sub"⟩
    · walk_at "w"
      refine WC__law_trim (by walk_at "rx") (by simp; omega) fun p => ?_
      exact NR.sub (q p) (by walk_at "sub")

end

section
variable {P : Program} {w : World} {K : PySem.W.Frag} {mg : Str → Option Value} {base : Heap}
def sp__law_row : Sp := fun vs H Q _ => ∃ (a : Addr) (xs : List Int), vs = [.ref a] ∧ H a = some (.lst (zV xs)) ∧ Tr xs ∧ NR Q (.bl true) H []
theorem WC__law_row {H0 : Hp} {fs : Fs} {Φ : CV} {a : Addr} {xs : List Int} (h : Rx H0 fs a (.lst (zV xs))) (ht : Tr xs) (q : Φ (.bl true) fs) : WC sp__law_row [.ref a] H0 fs Φ :=
  fun H k Q E c => ⟨a, xs, rfl, h H k, ht, fun H' k' => c _ _ _ (k.app k') q⟩
theorem ok__law_row (T : Txt P K mg base) : FnOk P w K mg base CX0 42 T.a__law_row T.d__law_row ["_law_found"] sp__law_row := by
  refine T.F__law_row.ok sc__law_row (fun vs H Q E h => ?_) (fun cdv A outer s H vs Q E hr h => ?_)
  · obtain ⟨a, xs, rfl, _⟩ := h; rfl
  · obtain ⟨a, xs, rfl, hA, ht, q⟩ := h
    refine ⟨_, (pss_cons (ps_if (pt_not (pt_val (pe_callB call_isi (by rfl) T.z_isinstance (by decide +kernel) (pa_cons (pv 0) (pa_cons (pe_bltn (v := .ty "list") (by rfl) T.z_list (by decide +kernel) rfl) pa_nil))))) (pss_one (ps_ret pe_bl)) pss_nil)
      (pss_cons (ps_for PassesOwn.never rfl (pi_list (pv 0)) (pg_name (i := 1) sc__law_row.nd rfl (Or.inl rfl)) (pss_one (ps_if (pt_not (pt_val (pe_call (ok__law_whole T) (hr.mono (by decide)) (by rfl) T.m__law_whole T.F__law_whole.kp T.b__law_whole .nil pass0 (pa_cons (pv 1) pa_nil)))) (pss_one (ps_ret pe_bl)) pss_nil)))
      (pss_one (ps_ret (pe_or (pe_cmpR (op_eqD hr.units) (pv 0) (pe_lst pa_nil) (nomark _)) (pe_one (pe_cmpR op_ne (pe_ix ix_list (pv 0) (pe_un un_neg pe_int) (fun _ _ => rfl)) pe_int (nomark _)))))))), ?_⟩
    refine N.go (σ := [some (.ref a), none]) ?_
    walk_at "w"
    refine S.forZ (a := a) (ns := xs) (fun i σ f => ∃ y, σ = [some (.ref a), y] ∧ f = []) ?_ ?_ ?_ ?_
    · walk_at "w"
      exact ⟨rfl, by walk_at "rl", none, rfl, rfl⟩
    · rintro i σ f ⟨y, rfl, rfl⟩
      walk_at "rl"
    · rintro i σ f hi ⟨y, rfl, rfl⟩
      walk_at "d"
      walk_at "w"
      refine WC__law_whole ?_
      walk_at "w"
      walk_at "lp"
      exact ⟨_, rfl, rfl⟩
    · rintro σ f ⟨y, rfl, rfl⟩
      walk_at "w"
      intro z
      walk_at "w"
      by_cases hne : xs = []
      · rw [decide_eq_true hne]
        walk_at "w"
        exact NR.sub q (by walk_at "sub")
      · rw [decide_eq_false hne]
        walk_at "w"
        refine RW.ixL (by walk_at "rl") (atI_lastI hne) ?_
        walk_at "w"
        rw [decide_eq_false (tr_last ht hne)]
        exact NR.sub q (by walk_at "sub")

end

section
variable {P : Program} {w : World} {K : PySem.W.Frag} {mg : Str → Option Value} {base : Heap}
def sp__law_paper : Sp := fun vs H Q _ => ∃ (p r p4 p5 : Addr) (row u v : List Int) (n : Int) (g : Nat), vs = [.ref p, .ref r] ∧ H p = some (.tup [.ref p4, .ref p5, .int n]) ∧ H p4 = some (.lst (zV u)) ∧ H p5 = some (.lst (zV v)) ∧ H r = some (.lst (zV row)) ∧
  Cb row (slp row) [1] u v n ∧ PpB u v n ∧ row.length ≤ 16 ∧ BdL g row ∧ g ≤ 50000000 ∧ NR Q (.bl true) H []
theorem WC__law_paper {H0 : Hp} {fs : Fs} {Φ : CV} {p r p4 p5 : Addr} {row u v : List Int} {n : Int} (g : Nat) (hp : Rx H0 fs p (.tup [.ref p4, .ref p5, .int n])) (h4 : Rx H0 fs p4 (.lst (zV u))) (h5 : Rx H0 fs p5 (.lst (zV v))) (hr : Rx H0 fs r (.lst (zV row))) (hc : Cb row (slp row) [1] u v n) (hB : PpB u v n) (hl : row.length ≤ 16) (hb : BdL g row) (hg : g ≤ 50000000)
    (q : Φ (.bl true) fs) : WC sp__law_paper [.ref p, .ref r] H0 fs Φ := fun H k Q E cc =>
  ⟨p, r, p4, p5, row, u, v, n, g, rfl, hp H k, h4 H k, h5 H k, hr H k, hc, hB, hl, hb, hg, fun H' k' => cc _ _ _ (k.app k') q⟩
theorem Cb.alone {A B u v : List Int} {n : Int} (h : Cb A B [1] u v n) : plus (tm u A) (tm v B) = [n] := by
  have hn := h.n1
  refine S_inj (plus_tr _ _) (tr_of_last (ys := []) (by omega : n ≠ 0)) ?_
  rw [S_plus, S_tm, S_tm, ← h.eq, S_one, S_one]
  have one : (Ser.C 1 : Ser) = 1 := rfl
  rw [one]; grind
theorem ok__law_paper (T : Txt P K mg base) : FnOk P w K mg base CX0 43 T.a__law_paper T.d__law_paper ["_law_found", "_law_row_here"] sp__law_paper := by
  refine T.F__law_paper.ok sc__law_paper (fun vs H Q E h => ?_) (fun cdv A outer s H vs Q E hr h => ?_)
  · obtain ⟨p, r, p4, p5, row, u, v, n, g, rfl, _⟩ := h; rfl
  · obtain ⟨p, r, p4, p5, row, u, v, n, g, rfl, hp, h4, h5, hrr, hc, hB, hl, hb, hg, q⟩ := h
    refine ⟨_, (pss_cons (ps_if (PW.pt (pw_or (pt_not (pt_val (pe_callB call_isi (by rfl) T.z_isinstance (by decide +kernel) (pa_cons (pv 0) (pa_cons (pe_bltn (v := .ty "tuple") (by rfl) T.z_tuple (by decide +kernel) rfl) pa_nil))))) (pw_or (pt_cmpR op_ne (pe_callB cLen (by rfl) T.z_len PySem.boot_len (pa_cons (pv 0) pa_nil)) pe_int (nomark _)) (pw_or (pt_not (pt_val (pe_call (ok__law_row T) (hr.mono (by decide)) (by rfl) T.m__law_row T.F__law_row.kp T.b__law_row .nil pass0 (pa_cons (pe_ix ix_tup (pv 0) pe_int (fun _ _ => rfl)) pa_nil)))) (pw_or1 (pt_not (pt_val (pe_call (ok__law_row T) (hr.mono (by decide)) (by rfl) T.m__law_row T.F__law_row.kp T.b__law_row .nil pass0 (pa_cons (pe_ix ix_tup (pv 0) pe_int (fun _ _ => rfl)) pa_nil))))))))) (pss_one (ps_ret pe_bl)) pss_nil)
      (pss_cons (ps_if (PW.pt (pw_or (pt_not (pt_val (pe_call (ok__law_whole T) (hr.mono (by decide)) (by rfl) T.m__law_whole T.F__law_whole.kp T.b__law_whole .nil pass0 (pa_cons (pe_ix ix_tup (pv 0) pe_int (fun _ _ => rfl)) pa_nil)))) (pw_or1 (pt_cmpR op_lt (pe_ix ix_tup (pv 0) pe_int (fun _ _ => rfl)) pe_int (nomark _))))) (pss_one (ps_ret pe_bl)) pss_nil)
      (pss_cons (ps_setLc (i := 2) (own := [("_law_k", 3)]) (g := gName 3) (tt := tYes) rfl sc__law_paper.nd rfl rfl (sw_true rfl rfl rfl (by decide +kernel)) (pi_range2 rfl T.z_range (pa_cons pe_int (pa_cons (pe_callB cLen (by rfl) T.z_len PySem.boot_len (pa_cons (pv 1) pa_nil)) pa_nil))) (blkOk_by (own := [("_law_k", 3)]) (N := ["_law_found", "_law_row_here", "_law_rest", "_law_k"]) (sc := defScope s__law_paper) (by decide +kernel)) (fun _ _ _ _ _ => pg_name (i := 3) sc__law_paper.nd rfl (Or.inl rfl)) (fun _ _ _ _ _ => pts_nil) (fun _ _ _ _ _ => (pe_op op_mulG (pv 3) (pe_ix (ix_listK (K := K) rfl) (pv 1) (pv 3) (fun _ _ => rfl)))))
      (pss_one (ps_ret (pe_cmpR (op_eqD hr.units) (pe_call (ok__law_plus T) (hr.mono (by decide)) (by rfl) T.m__law_plus T.F__law_plus.kp T.b__law_plus .nil pass0 (pa_cons (pe_call (ok__law_times T) (hr.mono (by decide)) (by rfl) T.m__law_times T.F__law_times.kp T.b__law_times .nil pass0 (pa_cons (pe_ix ix_tup (pv 0) pe_int (fun _ _ => rfl)) (pa_cons (pv 1) pa_nil))) (pa_cons (pe_call (ok__law_times T) (hr.mono (by decide)) (by rfl) T.m__law_times T.F__law_times.kp T.b__law_times .nil pass0 (pa_cons (pe_ix ix_tup (pv 0) pe_int (fun _ _ => rfl)) (pa_cons (pv 2) pa_nil))) pa_nil))) (pe_lst (pa_cons (pe_ix ix_tup (pv 0) pe_int (fun _ _ => rfl)) pa_nil)) (nomark _))))))), ?_⟩
    obtain ⟨b1, b2, b3, b4, b5⟩ := hB
    refine N.go (σ := [some (.ref p), some (.ref r), none, none]) ?_
    have hn := hc.n1
    walk_at "w"
    refine WC__law_row (xs := u) (by walk_at "rx") hc.ut ?_
    walk_at "w"
    refine WC__law_row (xs := v) (by walk_at "rx") hc.vt ?_
    walk_at "w"
    refine WC__law_whole ?_
    walk_at "w"
    rw [decide_eq_false (by omega : ¬ n < 1)]
    walk_at "w"
    refine W.lcR2z (lo := 1) (n := (row.length : Int)) (fun (k : Nat) => (1 + (k : Int)) * gat row (1 + (k : Int))) ?_
    walk_at "w"
    refine ⟨rfl, by omega, fun _ => rfl, fun i D acc hi => ?_, fun D => ?_⟩
    · walk_at "d"
      have hok : IntMulOk (1 + (i : Int)) (gat row (1 + (i : Int))) := mulB (a := 17) (by omega) (hb.gat _) (by omega)
      walk_at "w"
      exact ⟨rfl, by walk_at "sub"⟩
    rw [slp_as]
    walk_at "d"
    walk_at "w"
    have hsl := slp_len row
    refine WC__law_times (xs := u) (ys := row) 66000000 g (by walk_at "rx") (by walk_at "rx") ⟨by omega, by omega⟩ b1 hb (by omega) fun t1 => ?_
    walk_at "w"
    refine WC__law_times (xs := v) (ys := slp row) 66000000 (4 + g) (by walk_at "rx") (by walk_at "rx") ⟨by omega, by omega⟩ b2 (slp_bd hb hl) (by omega) fun t2 => ?_
    walk_at "w"
    have tl1 := tm_len u row
    have tl2 := tm_len v (slp row)
    refine WC__law_plus (xs := tm u row) (ys := tm v (slp row)) (by walk_at "rx") (by walk_at "rx") ⟨by omega, by omega⟩ fun t3 => ?_
    rw [hc.alone]
    walk_at "w"
    intro t4
    walk_at "w"
    rw [decide_eq_true (rfl : [n] = [n])]
    exact NR.sub q (by walk_at "sub")

end

section
variable {P : Program} {w : World} {K : PySem.W.Frag} {mg : Str → Option Value} {base : Heap}
/-- a piece's numbers -/
def pcA (c : Int) : Int := 1 + c % 4
def pcB (c : Int) : Int := if c / 100 % 5 = 1 then c / 500 % 10 ^ 12 else c / 4 % 25 - 12
def pcG (c : Int) : Int := ((Nat.gcd (pcA c).natAbs (pcB c).natAbs : Nat) : Int)
def pc (c : Int) : List Int := [(pcB c).fdiv (pcG c), (pcA c).fdiv (pcG c)]
theorem pcA_bd (c : Int) : 1 ≤ pcA c ∧ pcA c ≤ 4 := by unfold pcA; omega
theorem pcG_bd (c : Int) : 1 ≤ pcG c ∧ pcG c ≤ 4 := by
  have ha := pcA_bd c
  unfold pcG
  have h1 := Nat.gcd_pos_of_pos_left (pcB c).natAbs (show 0 < (pcA c).natAbs by omega)
  have h2 := Nat.gcd_le_left (pcB c).natAbs (show 0 < (pcA c).natAbs by omega)
  omega
theorem pcB_bd (c : Int) : Bd 40 (pcB c) := by
  unfold pcB Bd
  have h1 : 0 ≤ c / 500 % 10 ^ 12 := Int.emod_nonneg _ (by decide)
  have h2 : c / 500 % 10 ^ 12 < 10 ^ 12 := Int.emod_lt_of_pos _ (by decide)
  have e : (10 : Int) ^ 12 = 1000000000000 := by decide
  have e2 : (2 : Nat) ^ 40 = 1099511627776 := by decide
  rw [e2]
  rw [e] at h1 h2 ⊢
  split <;> omega
theorem pc_lin (c : Int) : Lin (pc c) ∧ BdL 40 (pc c) := by
  have ha := pcA_bd c
  have hg := pcG_bd c
  have d1 : pcG c ∣ pcA c := by unfold pcG; exact Int.ofNat_dvd_left.mpr (Nat.gcd_dvd_left _ _)
  have d2 : pcG c ∣ pcB c := by unfold pcG; exact Int.ofNat_dvd_left.mpr (Nat.gcd_dvd_right _ _)
  have e1 := fdiv_of_dvd (by omega) d1
  have e2 := fdiv_of_dvd (by omega) d2
  have hpos : 0 < (pcA c).fdiv (pcG c) := Int.not_le.mp fun z => by
    have := Int.mul_nonpos_of_nonneg_of_nonpos (show 0 ≤ pcG c by omega) z
    omega
  refine ⟨⟨⟨tr_of_last (ys := [(pcB c).fdiv (pcG c)]) (by omega), by simp [pc], ?_, hpos⟩, rfl⟩, fun x hx => ?_⟩
  · have hc : cont (pc c) = Nat.gcd ((pcB c).fdiv (pcG c)).natAbs (Nat.gcd ((pcA c).fdiv (pcG c)).natAbs 0) := rfl
    rw [hc, Nat.gcd_zero_right]
    have n1 : (pcA c).natAbs = (pcG c).natAbs * ((pcA c).fdiv (pcG c)).natAbs := by rw [← Int.natAbs_mul, e1]
    have n2 : (pcB c).natAbs = (pcG c).natAbs * ((pcB c).fdiv (pcG c)).natAbs := by rw [← Int.natAbs_mul, e2]
    have n3 : (pcG c).natAbs = Nat.gcd (pcA c).natAbs (pcB c).natAbs := by unfold pcG; exact Int.natAbs_natCast _
    rw [n1, n2, Nat.gcd_mul_left] at n3
    have p : 0 < (pcG c).natAbs := by omega
    have : Nat.gcd ((pcA c).fdiv (pcG c)).natAbs ((pcB c).fdiv (pcG c)).natAbs = 1 := by
      have h := n3.symm
      conv at h => rhs; rw [← Nat.mul_one (pcG c).natAbs]
      exact Nat.eq_of_mul_eq_mul_left p h
    rw [Nat.gcd_comm]; exact this
  · rcases List.mem_cons.mp hx with rfl | hx
    · exact (pcB_bd c).fdiv (by omega) d2
    · rw [List.mem_singleton.mp hx]
      exact Bd.fdiv (show Bd 40 (pcA c) from Bd.mono (a := 3) (show (pcA c).natAbs < 2 ^ 3 by omega) (by omega)) (by omega) d1
def sp__law_piece : Sp := fun vs H Q _ => ∃ (c : Int), vs = [.int c] ∧ ∀ p, NR Q (.ref p) H [(p, .lst (zV (pc c)))]
theorem WC__law_piece {H0 : Hp} {fs : Fs} {Φ : CV} {c : Int} (q : ∀ p, Φ (.ref p) ((p, .lst (zV (pc c))) :: fs)) : WC sp__law_piece [.int c] H0 fs Φ := fun H k Q E cc => ⟨c, rfl, fun p H' k' => cc _ _ _ (k.app k') (q p)⟩
theorem ok__law_piece (T : Txt P K mg base) : FnOk P w K mg base CX0 42 T.a__law_piece T.d__law_piece ["_law_cell"] sp__law_piece := by
  refine T.F__law_piece.ok sc__law_piece (fun vs H Q E h => ?_) (fun cdv A outer s H vs Q E hr h => ?_)
  · obtain ⟨c, rfl, _⟩ := h; rfl
  · obtain ⟨c, rfl, q⟩ := h
    refine ⟨_, (pss_cons (ps_set (i := 1) sc__law_piece.nd rfl (Or.inl rfl) (pe_op op_add pe_int (pe_op op_mod (pv 0) pe_int)))
      (pss_cons (ps_set (i := 2) sc__law_piece.nd rfl (Or.inl rfl) (pe_op op_sub (pe_op op_mod (pe_op op_fdiv (pv 0) pe_int) pe_int) pe_int))
      (pss_cut (ps_if (pt_cmpR op_eq (pe_op op_mod (pe_op op_fdiv (pv 0) pe_int) pe_int) pe_int (nomark _)) (pss_one (ps_set (i := 2) sc__law_piece.nd rfl (Or.inl rfl) (pe_op op_mod (pe_op op_fdiv (pv 0) pe_int) (pe_op op_pow pe_int pe_int)))) pss_nil)
      (pss_cons (ps_set (i := 3) sc__law_piece.nd rfl (Or.inl rfl) (pe_call (ok__law_greatest T) (hr.mono (by decide)) (by rfl) T.m__law_greatest T.F__law_greatest.kp T.b__law_greatest .nil pass0 (pa_cons (pv 1) (pa_cons (pv 2) pa_nil))))
      (pss_one (ps_ret (pe_lst (pa_cons (pe_op op_fdivG (pv 2) (pv 3)) (pa_cons (pe_op op_fdivG (pv 1) (pv 3)) pa_nil))))))))), ?_⟩
    refine N.go (σ := [some (.int c), none, none, none]) ?_
    walk_at "w"
    walk_at "d"
    walk_at "w"
    walk_at "d"
    refine S.cut (fun σ f => σ = [some (.int c), some (.int (pcA c)), some (.int (pcB c)), none] ∧ f = []) ?_ ?_
    · walk_at "w"
      walk_at "if"
      · rename_i h1
        walk_at "w"
        walk_at "un"
        refine ⟨?_, rfl⟩
        unfold pcA pcB
        rw [if_pos h1]
        rfl
      · rename_i h1
        walk_at "w"
        walk_at "un"
        refine ⟨?_, rfl⟩
        unfold pcA pcB
        rw [if_neg h1]
    rintro σ f ⟨rfl, rfl⟩
    walk_at "w"
    refine WC__law_greatest ?_
    rw [show ((Nat.gcd (pcA c).natAbs (pcB c).natAbs : Nat) : Int) = pcG c from rfl]
    have hg := pcG_bd c
    have hb4 : Bd 3 (pcG c) := show (pcG c).natAbs < 2 ^ 3 by omega
    have c1 : CDivG (pcB c) (pcG c) := CDivG.bits (by omega) hb4 (by omega)
    have c2 : CDivG (pcA c) (pcG c) := CDivG.bits (by omega) hb4 (by omega)
    walk_at "d"
    walk_at "w"
    refine ⟨by simp, fun p => ?_⟩
    exact NR.sub (q p) (by walk_at "sub")

end

section
variable {P : Program} {w : World} {K : PySem.W.Frag} {mg : Str → Option Value} {base : Heap}
theorem any_row (p : List Int) : ∀ rows : List (List Int), ((rows.map zD).any fun z => PyData.eqv z (zD p)) = decide (p ∈ rows)
  | [] => by simp
  | r :: rows => by
    rw [List.map_cons, List.any_cons, any_row p rows, zD_eqv, Bool.eq_iff_iff]
    simp
    constructor
    · rintro (h | h)
      · exact .inl h.symm
      · exact .inr h
    · rintro (h | h)
      · exact .inl h.symm
      · exact .inr h
theorem pc_data {K : PySem.W.Frag} {H0 : Hp} {fs : Fs} : ∀ {qs : List Pc3}, (∀ q ∈ qs, Rx H0 fs q.1 (.lst (zV q.2.1))) → RdA K H0 fs (pcv qs) ((pcr qs).map zD)
  | [], _ => RdA.nil
  | q :: r, h => RdA.cons (Rd.z (Rl.x (h q List.mem_cons_self))) (pc_data fun q' hq' => h q' (List.mem_cons_of_mem _ hq'))
def sp__law_pieces (K : PySem.W.Frag) : Sp := fun vs H Q _ => ∃ (a : Addr) (ns : List Int), vs = [.ref a] ∧ SqL K H a (zV ns) ∧
  ∀ (qs : List Pc3), PcB qs → ∀ fn cn p, NR Q (.ref p) H ((p, .tup [.ref fn, .ref cn]) :: (fn, .lst (pcv qs)) :: (cn, .lst (zV (pcc qs))) :: pcf qs)
theorem WC__law_pieces {K : PySem.W.Frag} {H0 : Hp} {fs : Fs} {Φ : CV} {a : Addr} {ns : List Int} (h : Rl K H0 fs a (zV ns))
    (c : ∀ (qs : List Pc3), PcB qs → ∀ fn cn p, Φ (.ref p) ((p, .tup [.ref fn, .ref cn]) :: (fn, .lst (pcv qs)) :: (cn, .lst (zV (pcc qs))) :: (pcf qs ++ fs))) : WC (sp__law_pieces K) [.ref a] H0 fs Φ :=
  fun H k Q E cc => ⟨a, ns, rfl, h H k, fun qs hq fn cn p H' k' => cc _ _ _ (k.app k') (c qs hq fn cn p)⟩
theorem ok__law_pieces (T : Txt P K mg base) : FnOk P w K mg base CX0 43 T.a__law_pieces T.d__law_pieces ["_law_script"] (sp__law_pieces K) := by
  refine T.F__law_pieces.ok sc__law_pieces (fun vs H Q E h => ?_) (fun cdv A outer s H vs Q E hr h => ?_)
  · obtain ⟨a, ns, rfl, _⟩ := h; rfl
  · obtain ⟨a, ns, rfl, hA, c⟩ := h
    refine ⟨_, (pss_cons (ps_set (i := 1) sc__law_pieces.nd rfl (Or.inl rfl) (pe_lst pa_nil))
      (pss_cons (ps_set (i := 2) sc__law_pieces.nd rfl (Or.inl rfl) (pe_lst pa_nil))
      (pss_cons (ps_set (i := 3) sc__law_pieces.nd rfl (Or.inl rfl) pe_int)
      (pss_cons (ps_for PassesOwn.never rfl (pi_range1 rfl T.z_range (pa_cons pe_int pa_nil)) (pg_name (i := 4) sc__law_pieces.nd rfl (Or.inl rfl)) (pss_cons (ps_set (i := 5) sc__law_pieces.nd rfl (Or.inl rfl) (pe_call (ok__law_piece T) (hr.mono (by decide)) (by rfl) T.m__law_piece T.F__law_piece.kp T.b__law_piece .nil pass0 (pa_cons (pe_call (ok__law_cell_at T) (hr.mono (by decide)) (by rfl) T.m__law_cell_at T.F__law_cell_at.kp T.b__law_cell_at .nil pass0 (pa_cons (pv 0) (pa_cons (pe_op op_add pe_int (pe_op op_mulG pe_int (pv 4))) pa_nil))) pa_nil)))
      (pss_cons (ps_set (i := 6) sc__law_pieces.nd rfl (Or.inl rfl) (pe_call (ok__law_cell_at T) (hr.mono (by decide)) (by rfl) T.m__law_cell_at T.F__law_cell_at.kp T.b__law_cell_at .nil pass0 (pa_cons (pv 0) (pa_cons (pe_op op_add pe_int (pe_op op_mulG pe_int (pv 4))) pa_nil))))
      (pss_cons (ps_set (i := 7) sc__law_pieces.nd rfl (Or.inl rfl) (pe_op op_mod (pv 6) pe_int))
      (pss_cut (ps_if (pt_cmpR op_eq (pe_op op_mod (pe_op op_fdiv (pv 6) pe_int) pe_int) pe_int (nomark _)) (pss_one (ps_set (i := 7) sc__law_pieces.nd rfl (Or.inl rfl) (pe_op op_mod (pe_op op_fdiv (pv 6) pe_int) pe_int))) pss_nil)
      (pss_one (ps_if (PW.pt (pw_and (pt_cmpR (op_notInDr hr) (pv 5) (pv 1) rfl) (pw_and (pt_cmpR op_gt (pv 7) pe_int (nomark _)) (pw_and1 (pt_cmpR op_lt (pe_op op_add (pv 3) (pv 7)) pe_int (nomark _)))))) (pss_cons (ps_expr (pe_bm PySem.F.plainAttrs_list PySem.F.slot_list_append PySem.F.type_list_append mt_append (pv 1) (pa_cons (pv 5) pa_nil)))
      (pss_cons (ps_expr (pe_bm PySem.F.plainAttrs_list PySem.F.slot_list_append PySem.F.type_list_append mt_append (pv 2) (pa_cons (pv 7) pa_nil)))
      (pss_one (ps_set (i := 3) sc__law_pieces.nd rfl (Or.inl rfl) (pe_op op_add (pv 3) (pv 7)))))) pss_nil)))))))
      (pss_one (ps_ret (pe_tup (pa_cons (pv 1) (pa_cons (pv 2) pa_nil))))))))), ?_⟩
    refine N.go (σ := [some (.ref a), none, none, none, none, none, none, none]) ?_
    walk_at "w"
    intro fn
    walk_at "d"
    walk_at "w"
    intro cn
    walk_at "d"
    walk_at "w"
    walk_at "d"
    walk_at "w"
    refine N.swap ?_
    refine S.forR (n := 5) (fun i σ f => ∃ (qs : List Pc3) (y4 y5 y6 y7 : Option V), σ = [some (.ref a), some (.ref fn), some (.ref cn), some (.int ((pcs qs : Nat) : Int)), y4, y5, y6, y7] ∧ f = (fn, HO.lst (pcv qs.reverse)) :: (cn, HO.lst (zV (pcc qs.reverse))) :: pcf qs ∧ PcB qs ∧ qs.length ≤ i) ?_ ?_ ?_
    · walk_at "w"
      exact ⟨rfl, by omega, by omega, [], none, none, none, none, rfl, rfl, ⟨fun q hq => (nomatch hq), List.nodup_nil, Nat.zero_le _, Nat.zero_le _⟩, Nat.le_refl _⟩
    · rintro i σ f hi ⟨qs, y4, y5, y6, y7, rfl, rfl, hB, hl⟩
      walk_at "d"
      walk_at "w"
      refine WC__law_cell_at (ns := ns) (by walk_at "rl") (by omega) ?_
      walk_at "w"
      generalize gat ns (2 + 2 * (i : Int)) = cp
      refine WC__law_piece fun pp => ?_
      obtain ⟨hlin, hbd⟩ := pc_lin cp
      generalize pc cp = pr at hlin hbd
      walk_at "d"
      walk_at "w"
      refine WC__law_cell_at (ns := ns) (by walk_at "rl") (by omega) ?_
      generalize gat ns (3 + 2 * (i : Int)) = cell
      walk_at "d"
      walk_at "w"
      walk_at "d"
      refine S.cut (fun σ f => ∃ cnt : Int, σ = [some (.ref a), some (.ref fn), some (.ref cn), some (.int ((pcs qs : Nat) : Int)), some (.int (i : Int)), some (.ref pp), some (.int cell), some (.int cnt)] ∧ f = (pp, HO.lst (zV pr)) :: (fn, HO.lst (pcv qs.reverse)) :: (cn, HO.lst (zV (pcc qs.reverse))) :: pcf qs ∧ cnt ≤ 12) ?_ ?_
      · walk_at "w"
        walk_at "if"
        · walk_at "w"
          walk_at "d"
          walk_at "un"
          exact ⟨_, rfl, rfl, by omega⟩
        · walk_at "w"
          walk_at "un"
          exact ⟨_, rfl, rfl, by omega⟩
      rintro σ f ⟨cnt, rfl, rfl, hcnt⟩
      walk_at "w"
      refine RW.notInD (d := zD pr) (ds := (pcr qs.reverse).map zD) (Rd.z (by walk_at "rl")) (Rd.lst (vs := pcv qs.reverse) (by walk_at "rl") (pc_data fun q hq => Rx.own (.tail _ (.tail _ (.tail _ (mem_pcf (List.mem_reverse.mp hq))))))) (zD_shaped _) (zDD_shaped _) ?_
      rw [any_row]
      have keep : N (Lp H (fun i σ f => ∃ (qs : List Pc3) (y4 y5 y6 y7 : Option V), σ = [some (.ref a), some (.ref fn), some (.ref cn), some (.int ((pcs qs : Nat) : Int)), y4, y5, y6, y7] ∧ f = (fn, HO.lst (pcv qs.reverse)) :: (cn, HO.lst (zV (pcc qs.reverse))) :: pcf qs ∧ PcB qs ∧ qs.length ≤ i) (i + 1)) [some (.ref a), some (.ref fn), some (.ref cn), some (.int ((pcs qs : Nat) : Int)), some (.int (i : Int)), some (.ref pp), some (.int cell), some (.int cnt)] H ((pp, HO.lst (zV pr)) :: (fn, HO.lst (pcv qs.reverse)) :: (cn, HO.lst (zV (pcc qs.reverse))) :: pcf qs) :=
        Lp.sub _ (.cons _ (.refl _)) ⟨qs, _, _, _, _, rfl, rfl, hB, by omega⟩
      by_cases hin : pr ∈ pcr qs.reverse
      · rw [decide_eq_true hin]
        walk_at "w"
        exact keep
      rw [decide_eq_false hin]
      walk_at "w"
      by_cases h0 : cnt > 0
      · rw [decide_eq_true (show (0 : Int) < cnt from h0)]
        walk_at "w"
        by_cases h13 : ((pcs qs : Nat) : Int) + cnt < 13
        · rw [decide_eq_true h13]
          walk_at "w"
          have hvl : (pcv qs.reverse).length < 1000000 := by unfold pcv; rw [List.length_map, List.length_reverse]; omega
          have hcl : (zV (pcc qs.reverse)).length < 1000000 := by rw [zV_length]; unfold pcc; rw [List.length_map, List.length_reverse]; omega
          refine S.app ?_
          walk_at "w0"
          refine ⟨⟨_, by walk_at "rl"⟩, ?_⟩
          walk_at "w0"
          refine ⟨_, 1, rfl, hvl, ?_⟩
          walk_at "d"
          walk_at "w"
          refine S.app ?_
          walk_at "w0"
          refine ⟨⟨_, by walk_at "rl"⟩, ?_⟩
          walk_at "w0"
          refine ⟨_, 2, rfl, hcl, ?_⟩
          obtain ⟨cm, hcm⟩ := Int.eq_ofNat_of_zero_le (show 0 ≤ cnt by omega)
          subst hcm
          walk_at "d"
          walk_at "w"
          walk_at "d"
          refine N.perm (fs' := (fn, HO.lst (pcv qs.reverse ++ [V.ref pp])) :: (cn, HO.lst (zV (pcc qs.reverse) ++ [V.int ((cm : Nat) : Int)])) :: (pp, HO.lst (zV pr)) :: pcf qs) (.trans (.swap _ _ _) (.cons _ (.swap _ _ _))) ?_
          walk_at "lp"
          have e1 : pcv qs.reverse ++ [V.ref pp] = pcv ((pp, pr, cm) :: qs).reverse := by unfold pcv; simp
          have e2 : zV (pcc qs.reverse) ++ [V.int ((cm : Nat) : Int)] = zV (pcc ((pp, pr, cm) :: qs).reverse) := by unfold pcc zV; simp
          rw [e1, e2]
          have es : pcs ((pp, pr, cm) :: qs) = cm + pcs qs := by unfold pcs; simp
          refine ⟨(pp, pr, cm) :: qs, some (.int (i : Int)), some (.ref pp), some (.int cell), some (.int ((cm : Nat) : Int)), ?_, rfl, ⟨fun q hq => ?_, ?_, ?_, ?_⟩, ?_⟩
          · rw [es, show ((cm + pcs qs : Nat) : Int) = ((pcs qs : Nat) : Int) + (cm : Int) by omega]
          · rcases List.mem_cons.mp hq with h | h
            · rw [h]; exact ⟨hlin, hbd, by show 1 ≤ cm; omega, by show cm ≤ 12; omega⟩
            · exact hB.all q h
          · refine List.nodup_cons.mpr ⟨fun hm => hin ?_, hB.nd⟩
            unfold pcr at hm ⊢
            rw [List.map_reverse]
            exact List.mem_reverse.mpr hm
          · rw [es]; omega
          · rw [List.length_cons]; omega
          · rw [List.length_cons]; omega
        · rw [decide_eq_false h13]
          walk_at "w"
          exact keep
      · rw [decide_eq_false (show ¬ (0 : Int) < cnt from h0)]
        walk_at "w"
        exact keep
    · rintro σ f ⟨qs, y4, y5, y6, y7, rfl, rfl, hB, _⟩
      walk_at "w"
      refine ⟨by simp, fun p => ?_⟩
      have := c qs.reverse hB.rev fn cn p
      refine NR.perm (.cons _ (.cons _ (.cons _ ?_))) this
      unfold pcf
      rw [List.map_reverse]
      exact (List.reverse_perm _).symm

end

section
variable {P : Program} {w : World} {K : PySem.W.Frag} {mg : Str → Option Value} {base : Heap}
theorem pvs_at {ps : List Pr4} {i : Nat} {q : Pr4} (h : ps[i]? = some q) : atI (pvs ps) (i : Int) = some (.ref q.1) := by
  refine atI_nat ?_
  unfold pvs
  rw [List.getElem?_map, h]; rfl
theorem pfo_at {ps : List Pr4} {i : Nat} {q : Pr4} (h : ps[i]? = some q) : (pfo ps)[i]? = some (q.2.2.1, q.2.2.2) := by
  unfold pfo
  rw [List.getElem?_map, h]; rfl
def sp__law_same_pairs : Sp := fun vs H Q _ => ∃ (a b : Addr) (ps ds : List Pr4), vs = [.ref a, .ref b] ∧ H a = some (.lst (pvs ps)) ∧ H b = some (.lst (pvs ds)) ∧ Hps H ps ∧ Hps H ds ∧ pfo ps = pfo ds ∧ ps.length ≤ 1000 ∧ (∀ q ∈ pfo ps, q.1.length ≤ 1000) ∧ NR Q (.bl true) H []
theorem WC__law_same_pairs {H0 : Hp} {fs : Fs} {Φ : CV} {a b : Addr} {ps ds : List Pr4} (ha : Rx H0 fs a (.lst (pvs ps))) (hb : Rx H0 fs b (.lst (pvs ds))) (h1 : Rps H0 fs ps) (h2 : Rps H0 fs ds) (e : pfo ps = pfo ds) (hl : ps.length ≤ 1000) (hq : ∀ q ∈ pfo ps, q.1.length ≤ 1000) (q : Φ (.bl true) fs) : WC sp__law_same_pairs [.ref a, .ref b] H0 fs Φ :=
  fun H k Q E cc => ⟨a, b, ps, ds, rfl, ha H k, hb H k, h1.at k, h2.at k, e, hl, hq, fun H' k' => cc _ _ _ (k.app k') q⟩
theorem ok__law_same_pairs (T : Txt P K mg base) : FnOk P w K mg base CX0 43 T.a__law_same_pairs T.d__law_same_pairs ["_law_found", "_law_due"] sp__law_same_pairs := by
  refine T.F__law_same_pairs.ok sc__law_same_pairs (fun vs H Q E h => ?_) (fun cdv A outer s H vs Q E hr h => ?_)
  · obtain ⟨a, b, ps, ds, rfl, _⟩ := h; rfl
  · obtain ⟨a, b, ps, ds, rfl, ha, hb, hps, hds, he, hl, hql, q⟩ := h
    refine ⟨_, (pss_cons (ps_if (PW.pt (pw_or (pt_not (pt_val (pe_callB call_isi (by rfl) T.z_isinstance (by decide +kernel) (pa_cons (pv 0) (pa_cons (pe_bltn (v := .ty "list") (by rfl) T.z_list (by decide +kernel) rfl) pa_nil))))) (pw_or1 (pt_cmpR op_ne (pe_callB cLen (by rfl) T.z_len PySem.boot_len (pa_cons (pv 0) pa_nil)) (pe_callB cLen (by rfl) T.z_len PySem.boot_len (pa_cons (pv 1) pa_nil)) (nomark _))))) (pss_one (ps_ret pe_bl)) pss_nil)
      (pss_cons (ps_for PassesOwn.never rfl (pi_range1 rfl T.z_range (pa_cons (pe_callB cLen (by rfl) T.z_len PySem.boot_len (pa_cons (pv 1) pa_nil)) pa_nil)) (pg_name (i := 2) sc__law_same_pairs.nd rfl (Or.inl rfl)) (pss_cons (ps_if (PW.pt (pw_or (pt_not (pt_val (pe_callB call_isi (by rfl) T.z_isinstance (by decide +kernel) (pa_cons (pe_ix ix_list (pv 0) (pv 2) (fun _ _ => rfl)) (pa_cons (pe_bltn (v := .ty "tuple") (by rfl) T.z_tuple (by decide +kernel) rfl) pa_nil))))) (pw_or (pt_cmpR op_ne (pe_callB cLen (by rfl) T.z_len PySem.boot_len (pa_cons (pe_ix ix_list (pv 0) (pv 2) (fun _ _ => rfl)) pa_nil)) pe_int (nomark _)) (pw_or1 (pt_not (pt_val (pe_call (ok__law_whole T) (hr.mono (by decide)) (by rfl) T.m__law_whole T.F__law_whole.kp T.b__law_whole .nil pass0 (pa_cons (pe_ix ix_tup (pe_ix ix_list (pv 0) (pv 2) (fun _ _ => rfl)) pe_int (fun _ _ => rfl)) pa_nil)))))))) (pss_one (ps_ret pe_bl)) pss_nil)
      (pss_one (ps_if (PW.pt (pw_or (pt_not (pt_val (pe_call (ok__law_same T) (hr.mono (by decide)) (by rfl) T.m__law_same T.F__law_same.kp T.b__law_same .nil pass0 (pa_cons (pe_ix ix_tup (pe_ix ix_list (pv 0) (pv 2) (fun _ _ => rfl)) pe_int (fun _ _ => rfl)) (pa_cons (pe_ix ix_tup (pe_ix ix_list (pv 1) (pv 2) (fun _ _ => rfl)) pe_int (fun _ _ => rfl)) pa_nil))))) (pw_or1 (pt_cmpR op_ne (pe_ix ix_tup (pe_ix ix_list (pv 0) (pv 2) (fun _ _ => rfl)) pe_int (fun _ _ => rfl)) (pe_ix ix_tup (pe_ix ix_list (pv 1) (pv 2) (fun _ _ => rfl)) pe_int (fun _ _ => rfl)) (nomark _))))) (pss_one (ps_ret pe_bl)) pss_nil))))
      (pss_one (ps_ret pe_bl)))), ?_⟩
    refine N.go (σ := [some (.ref a), some (.ref b), none]) ?_
    have hlen : ps.length = ds.length := by
      have := congrArg List.length he
      rw [pfo_len, pfo_len] at this
      exact this
    walk_at "w"
    rw [decide_eq_true (show ((pvs ps).length : Int) = ((pvs ds).length : Int) by rw [pvs_len, pvs_len, hlen])]
    walk_at "w"
    refine S.forR (n := (ds.length : Int)) (fun i σ f => ∃ y, σ = [some (.ref a), some (.ref b), y] ∧ f = []) ?_ ?_ ?_
    · walk_at "w"
      rw [pvs_len]
      exact ⟨rfl, by omega, by omega, none, rfl, rfl⟩
    · rintro i σ f hi ⟨y, rfl, rfl⟩
      have hil : i < ds.length := by omega
      obtain ⟨q1, hq1⟩ : ∃ qq, ps[i]? = some qq := ⟨_, List.getElem?_eq_getElem (by omega)⟩
      obtain ⟨q2, hq2⟩ : ∃ qq, ds[i]? = some qq := ⟨_, List.getElem?_eq_getElem hil⟩
      have e := pfo_at hq1
      rw [he, pfo_at hq2] at e
      have e' := Option.some.inj e
      have e1 : q2.2.2.1 = q1.2.2.1 := congrArg Prod.fst e'
      have e2 : q2.2.2.2 = q1.2.2.2 := congrArg Prod.snd e'
      have t1 := hps.t q1 (List.mem_of_getElem? hq1)
      have l1 := hps.l q1 (List.mem_of_getElem? hq1)
      have t2 := hds.t q2 (List.mem_of_getElem? hq2)
      have l2 := hds.l q2 (List.mem_of_getElem? hq2)
      rw [e2] at t2
      rw [e1] at l2
      have hq1l : q1.2.2.1.length ≤ 1000 := hql _ (mem_pfo (List.mem_of_getElem? hq1))
      walk_at "d"
      walk_at "w"
      refine RW.ixL (by walk_at "rl") (pvs_at hq1) ?_
      walk_at "w"
      refine RW.ixL (by walk_at "rl") (pvs_at hq1) ?_
      walk_at "w"
      refine RW.ixL (by walk_at "rl") (pvs_at hq1) ?_
      walk_at "w"
      refine WC__law_whole ?_
      walk_at "w"
      refine RW.ixL (by walk_at "rl") (pvs_at hq1) ?_
      walk_at "w"
      refine RW.ixL (by walk_at "rl") (pvs_at hq2) ?_
      walk_at "w"
      refine WC__law_same (xs := q1.2.2.1) (by walk_at "rx") (by walk_at "rx") (by omega) ?_
      walk_at "w"
      refine RW.ixL (by walk_at "rl") (pvs_at hq1) ?_
      walk_at "w"
      refine RW.ixL (by walk_at "rl") (pvs_at hq2) ?_
      walk_at "w"
      rw [decide_eq_true (rfl : (q1.2.2.2 : Int) = (q1.2.2.2 : Int))]
      walk_at "w"
      walk_at "lp"
      exact ⟨_, rfl, rfl⟩
    · rintro σ f ⟨y, rfl, rfl⟩
      walk_at "w"
      exact NR.sub q (by walk_at "sub")

end

section
variable {P : Program} {w : World} {K : PySem.W.Frag} {mg : Str → Option Value} {base : Heap}
-- ok_joinedX ok_joined
def sp__law_refused (K : PySem.W.Frag) : Sp := fun vs H Q _ => ∃ (pn bt : Addr) (c m : Int) (v : V) (ps : List Pr4) (rest : List V) (b X : Nat) (bb : Bool), vs = [.int c, .ref pn, .bl bb] ∧ SqL K H pn (pvs ps ++ V.ref bt :: rest) ∧ Hps H ps ∧ H bt = some (.tup [v, .int m]) ∧ m < 0 ∧ JnB c (pfo ps) b X ∧ NR Q (.bl true) H []
theorem WC__law_refused {K : PySem.W.Frag} {H0 : Hp} {fs : Fs} {Φ : CV} {pn bt : Addr} {c m : Int} {v : V} {ps : List Pr4} {rest : List V} {bb : Bool} (b X : Nat) (h : Rl K H0 fs pn (pvs ps ++ V.ref bt :: rest)) (hp : Rps H0 fs ps) (ht : Rx H0 fs bt (.tup [v, .int m])) (hm : m < 0) (hB : JnB c (pfo ps) b X) (q : Φ (.bl true) fs) : WC (sp__law_refused K) [.int c, .ref pn, .bl bb] H0 fs Φ :=
  fun H k Q E cc => ⟨pn, bt, c, m, v, ps, rest, b, X, bb, rfl, h H k, hp.at k, ht H k, hm, hB, fun H' k' => cc _ _ _ (k.app k') q⟩
theorem ok__law_refused (T : Txt P K mg base) : FnOk P w K mg base CX0 45 T.a__law_refused T.d__law_refused ["_law_number_here", "_law_pairs_here", "_law_base"] (sp__law_refused K) := by
  refine T.F__law_refused.ok sc__law_refused (fun vs H Q E h => ?_) (fun cdv A outer s H vs Q E hr h => ?_)
  · obtain ⟨pn, bt, c, m, v, ps, rest, b, X, bb, rfl, _⟩ := h; rfl
  · obtain ⟨pn, bt, c, m, v, ps, rest, b, X, bb, rfl, hn, hps, hbt, hm, hB, q⟩ := h
    refine ⟨_, (pss_cons (ps_try_onlyK (K := K) (Wout := (fun _ _ _ _ => False)) rfl rfl rfl ⟨by rfl, by decide, .inl T.e_NoPower.g⟩ takes0
        (fun W0 pn0 xe0 tk0 po0 => (pss_one (ps_if (pt_val (pv 2)) (pss_one (ps_try_asK (K := K) (i := 3) (Wout := W0) rfl rfl rfl sc__law_refused.nd rfl rfl ⟨by rfl, by decide, .inl T.e_PolyError.g⟩ tk0
        (fun W1 pn1 xe1 tk1 po1 => (pss_one (ps_expr (pe_callS (okX_joined T) (hr.mono (by decide)) (by rfl) T.m_joined T.F_joined.kp T.b_joined (fun σ => passAt tk1 σ) (pa_cons (pv 0) (pa_cons (pv 1) pa_nil))))))
        (fun a oe cls d pn hz hf => (pss_one (ps_ret (pe_callB (call_isVK (K := K) rfl hz hf) (by rfl) T.z_isinstance (by decide +kernel) (pa_cons (pv 3) (pa_cons (pe_bltn (v := .ty "ValueError") (by rfl) T.z_ValueError (by decide +kernel) rfl) pa_nil)))))))) (pss_one (ps_expr (pe_callS (okX_joined T) (hr.mono (by decide)) (by rfl) T.m_joined T.F_joined.kp T.b_joined (fun σ => passAt tk0 σ) (pa_cons (pv 0) (pa_cons (pv 1) pa_nil))))))))
        (fun a oe cls d pn hz hf => (pss_one (ps_ret (pe_not (pv 2))))))
      (pss_one (ps_ret pe_bl))), ?_⟩
    refine N.go (σ := [some (.int c), some (.ref pn), some (.bl bb), none]) ?_
    refine S.seq ?_
    cases bb with
    | true =>
      walk_at "w"
      refine W.callX ?_
      walk_at "w"
      refine WC_joinedX (v := v) (ps := ps) b X (by walk_at "rl") hps.rps (by walk_at "rx") hm hB ?_
      refine NX.as T.u_NoPower_PolyError fun e => ?_
      walk_at "d"
      walk_at "w"
      refine RC.isV T.e_NoPower.i T.e_NoPower.v ?_
      walk_at "fin"
    | false =>
      walk_at "w"
      refine W.callX ?_
      walk_at "w"
      refine WC_joinedX (v := v) (ps := ps) b X (by walk_at "rl") hps.rps (by walk_at "rx") hm hB ?_
      refine NX.only T.u_NoPower_NoPower fun e => ?_
      walk_at "w"
      walk_at "fin"

end

section
variable {P : Program} {w : World} {K : PySem.W.Frag} {mg : Str → Option Value} {base : Heap}
/-- a number drawn from a cell -/
def num__law_number (c : Int) : Int := if c % 7 = 0 then 0 else if c % 7 = 1 then (1 - c / 7 % 2 * 2) * (c / 14 % 10 ^ 40) else c / 7 % 19 - 9
theorem num__law_number_bd (c : Int) : Bd 133 (num__law_number c) := by
  unfold num__law_number Bd
  have h1 : 0 ≤ c / 14 % 10 ^ 40 := Int.emod_nonneg _ (by decide)
  have h2 : c / 14 % 10 ^ 40 < 10 ^ 40 := Int.emod_lt_of_pos _ (by decide)
  have h3 : c / 7 % 2 = 0 ∨ c / 7 % 2 = 1 := by omega
  have e : (10 : Int) ^ 40 = 10000000000000000000000000000000000000000 := by decide
  have e2 : (2 : Nat) ^ 133 = 10889035741470030830827987437816582766592 := by decide
  rw [e2]
  rw [e] at h1 h2 ⊢
  split
  · decide
  · split
    · rcases h3 with h3 | h3 <;> rw [h3] <;> omega
    · omega
def sp__law_number : Sp := fun vs H Q _ => ∃ (c : Int), vs = [.int c] ∧ NR Q (.int (num__law_number c)) H []
theorem WC__law_number {H0 : Hp} {fs : Fs} {Φ : CV} {c : Int} (q : Φ (.int (num__law_number c)) fs) : WC sp__law_number [.int c] H0 fs Φ := fun H k Q E cc => ⟨c, rfl, fun H' k' => cc _ _ _ (k.app k') q⟩
theorem ok__law_number (T : Txt P K mg base) : FnOk P w K mg base CX0 41 T.a__law_number T.d__law_number ["_law_cell"] sp__law_number := by
  refine T.F__law_number.ok sc__law_number (fun vs H Q E h => ?_) (fun cdv A outer s H vs Q E hr h => ?_)
  · obtain ⟨c, rfl, _⟩ := h; rfl
  · obtain ⟨c, rfl, q⟩ := h
    refine ⟨_, (pss_cons (ps_if (pt_cmpR op_eq (pe_op op_mod (pv 0) pe_int) pe_int (nomark _)) (pss_one (ps_ret pe_int)) pss_nil)
      (pss_cons (ps_if (pt_cmpR op_eq (pe_op op_mod (pv 0) pe_int) pe_int (nomark _)) (pss_one (ps_ret (pe_op op_mulG (pe_op op_sub pe_int (pe_op op_mulG (pe_op op_mod (pe_op op_fdiv (pv 0) pe_int) pe_int) pe_int)) (pe_op op_mod (pe_op op_fdiv (pv 0) pe_int) (pe_op op_pow pe_int pe_int))))) pss_nil)
      (pss_one (ps_ret (pe_op op_sub (pe_op op_mod (pe_op op_fdiv (pv 0) pe_int) pe_int) pe_int))))), ?_⟩
    refine N.go (σ := [some (.int c)]) ?_
    unfold num__law_number at q
    walk_at "w"
    walk_at "if"
    · rename_i h1
      rw [if_pos h1] at q
      walk_at "w"
      walk_at "fin"
    · rename_i h1
      rw [if_neg h1] at q
      walk_at "w"
      walk_at "if"
      · rename_i h2
        rw [if_pos h2] at q
        walk_at "w"
        walk_at "fin"
      · rename_i h2
        rw [if_neg h2] at q
        walk_at "w"
        walk_at "fin"

end

section
variable {P : Program} {w : World} {K : PySem.W.Frag} {mg : Str → Option Value} {base : Heap}
/-- the drawn pairs -/
structure PrB (ps : List Pr4) : Prop where
  len : ps.length ≤ 13
  all : ∀ q ∈ pfo ps, q.2 ≤ 60 ∧ q.1.length ≤ 3 ∧ BdL 133 q.1
theorem PrB.cons {ps : List Pr4} (h : PrB ps) (hl : ps.length ≤ 12) (q : Pr4) (h1 : q.2.2.2 ≤ 60) (h2 : q.2.2.1.length ≤ 3) (h3 : BdL 133 q.2.2.1) : PrB (q :: ps) :=
  ⟨by rw [List.length_cons]; omega, fun x hx => by
    rcases List.mem_cons.mp (show x ∈ (q.2.2.1, q.2.2.2) :: pfo ps from hx) with e | hx
    · rw [e]; exact ⟨h1, h2, h3⟩
    · exact h.all x hx⟩
theorem PrB.rev {ps : List Pr4} (h : PrB ps) : PrB ps.reverse :=
  ⟨by rw [List.length_reverse]; exact h.len, fun x hx => by
    unfold pfo at hx
    rw [List.map_reverse] at hx
    exact h.all x (List.mem_reverse.mp hx)⟩
theorem PrB.nil : PrB [] := ⟨Nat.zero_le _, fun _ h => nomatch h⟩
def sp__law_pairs (K : PySem.W.Frag) : Sp := fun vs H Q _ => ∃ (a : Addr) (ns : List Int), vs = [.ref a] ∧ SqL K H a (zV ns) ∧ ∀ (ps : List Pr4), PrB ps → ∀ pn, NR Q (.ref pn) H ((pn, .lst (pvs ps)) :: pf ps)
theorem WC__law_pairs {K : PySem.W.Frag} {H0 : Hp} {fs : Fs} {Φ : CV} {a : Addr} {ns : List Int} (h : Rl K H0 fs a (zV ns)) (c : ∀ (ps : List Pr4), PrB ps → ∀ pn, Φ (.ref pn) ((pn, .lst (pvs ps)) :: (pf ps ++ fs))) : WC (sp__law_pairs K) [.ref a] H0 fs Φ :=
  fun H k Q E cc => ⟨a, ns, rfl, h H k, fun ps hp pn H' k' => cc _ _ _ (k.app k') (c ps hp pn)⟩
theorem pvs_snoc (ps : List Pr4) (q : Pr4) : pvs ps.reverse ++ [V.ref q.1] = pvs (q :: ps).reverse := by unfold pvs; simp
theorem ok__law_pairs (T : Txt P K mg base) : FnOk P w K mg base CX0 42 T.a__law_pairs T.d__law_pairs ["_law_script"] (sp__law_pairs K) := by
  refine T.F__law_pairs.ok sc__law_pairs (fun vs H Q E h => ?_) (fun cdv A outer s H vs Q E hr h => ?_)
  · obtain ⟨a, ns, rfl, _⟩ := h; rfl
  · obtain ⟨a, ns, rfl, hA, c⟩ := h
    refine ⟨_, (pss_cons (ps_set (i := 1) sc__law_pairs.nd rfl (Or.inl rfl) (pe_lst pa_nil))
      (pss_cons (ps_for PassesOwn.never rfl (pi_range1 rfl T.z_range (pa_cons (pe_op op_mod (pe_call (ok__law_cell_at T) (hr.mono (by decide)) (by rfl) T.m__law_cell_at T.F__law_cell_at.kp T.b__law_cell_at .nil pass0 (pa_cons (pv 0) (pa_cons pe_int pa_nil))) pe_int) pa_nil)) (pg_name (i := 2) sc__law_pairs.nd rfl (Or.inr rfl)) (pss_cons (ps_set (i := 3) sc__law_pairs.nd rfl (Or.inr rfl) (pe_call (ok__law_cell_at T) (hr.mono (by decide)) (by rfl) T.m__law_cell_at T.F__law_cell_at.kp T.b__law_cell_at .nil pass0 (pa_cons (pv 0) (pa_cons (pe_op op_add pe_int (pv 2)) pa_nil))))
      (pss_cons (ps_set (i := 4) sc__law_pairs.nd rfl (Or.inl rfl) (pe_call (ok__law_trim T) (hr.mono (by decide)) (by rfl) T.m__law_trim T.F__law_trim.kp T.b__law_trim .nil pass0 (pa_cons (pe_lc (own := [("_law_j", 5)]) (g := gName 5) (tt := tYes) rfl sc__law_pairs.nd (pi_range1 rfl T.z_range (pa_cons (pe_op op_mod (pv 3) pe_int) pa_nil)) (blkOk_by (own := [("_law_j", 5)]) (N := ["_law_script", "_law_pairs_here", "_law_k", "_law_cell", "_law_row_here", "_law_j"]) (sc := defScope s__law_pairs) (by decide +kernel)) (fun _ _ _ _ _ => pg_name (i := 5) sc__law_pairs.nd rfl (Or.inl rfl)) (fun _ _ _ _ _ => pts_nil) (fun _ _ _ _ _ => (pe_call (ok__law_number T) (hr.mono (by decide)) (by rfl) T.m__law_number T.F__law_number.kp T.b__law_number .nil pass0 (pa_cons (pe_call (ok__law_cell_at T) (hr.mono (by decide)) (by rfl) T.m__law_cell_at T.F__law_cell_at.kp T.b__law_cell_at .nil pass0 (pa_cons (pv 0) (pa_cons (pe_op op_add (pe_op op_add pe_int (pe_op op_mulG pe_int (pv 2))) (pv 5)) pa_nil))) pa_nil)))) pa_nil)))
      (pss_one (ps_expr (pe_bm PySem.F.plainAttrs_list PySem.F.slot_list_append PySem.F.type_list_append mt_append (pv 1) (pa_cons (pe_tup (pa_cons (pv 4) (pa_cons (pe_op op_mod (pe_op op_fdiv (pv 3) pe_int) pe_int) pa_nil))) pa_nil)))))))
      (pss_cons (ps_set (i := 3) sc__law_pairs.nd rfl (Or.inr rfl) (pe_call (ok__law_cell_at T) (hr.mono (by decide)) (by rfl) T.m__law_cell_at T.F__law_cell_at.kp T.b__law_cell_at .nil pass0 (pa_cons (pv 0) (pa_cons pe_int pa_nil))))
      (pss_cut (ps_if (pt_cmpR op_eq (pe_op op_mod (pv 3) pe_int) pe_int (nomark _)) (pss_one (ps_expr (pe_bm PySem.F.plainAttrs_list PySem.F.slot_list_append PySem.F.type_list_append mt_append (pv 1) (pa_cons (pe_tup (pa_cons (pe_lst (pa_cons (pe_op op_sub (pe_op op_mod (pe_op op_fdiv (pv 3) pe_int) pe_int) pe_int) (pa_cons pe_int pa_nil))) (pa_cons (pe_op op_mod (pe_op op_fdiv (pv 3) pe_int) pe_int) pa_nil))) pa_nil)))) pss_nil)
      (pss_cut (ps_if (pt_cmpR op_eq (pe_op op_mod (pv 3) pe_int) pe_int (nomark _)) (pss_one (ps_setLc (i := 1) (own := [("_law_k", 2)]) (g := gName 2) (tt := tYes) rfl sc__law_pairs.nd rfl rfl (sw_true rfl rfl rfl (by decide +kernel)) (pi_range1 rfl T.z_range (pa_cons (pe_op op_mod (pe_op op_fdiv (pv 3) pe_int) pe_int) pa_nil)) (blkOk_by (own := [("_law_k", 2)]) (N := ["_law_script", "_law_pairs_here", "_law_k", "_law_cell", "_law_row_here", "_law_j"]) (sc := defScope s__law_pairs) (by decide +kernel)) (fun _ _ _ _ _ => pg_name (i := 2) sc__law_pairs.nd rfl (Or.inl rfl)) (fun _ _ _ _ _ => pts_nil) (fun _ _ _ _ _ => (pe_tup (pa_cons (pe_lst (pa_cons (pe_op op_add (pe_op op_mod (pe_op op_fdiv (pv 3) pe_int) pe_int) (pv 2)) (pa_cons pe_int pa_nil))) (pa_cons (pe_op op_mod (pv 2) pe_int) pa_nil)))))) pss_nil)
      (pss_one (ps_ret (pv 1)))))))), ?_⟩
    refine N.go (σ := [some (.ref a), none, none, none, none, none]) ?_
    walk_at "w"
    intro pn
    walk_at "d"
    walk_at "w"
    obtain ⟨m, hm⟩ := Int.eq_ofNat_of_zero_le (show 0 ≤ gat ns 12 % 4 by omega)
    have hm3 : m ≤ 3 := by omega
    refine S.forR (n := (m : Int)) (fun i σ f => ∃ (ps : List Pr4) (y2 y3 y4 y5 : Option V), σ = [some (.ref a), some (.ref pn), y2, y3, y4, y5] ∧ f = (pn, HO.lst (pvs ps.reverse)) :: pf ps ∧ PrB ps ∧ ps.length ≤ i) ?_ ?_ ?_
    · walk_at "w"
      refine WC__law_cell_at (ns := ns) (by walk_at "rl") (by omega) ?_
      walk_at "w"
      rw [hm]
      exact ⟨rfl, by omega, by omega, [], none, none, none, none, rfl, rfl, PrB.nil, Nat.le_refl _⟩
    · rintro i σ f hi ⟨ps, y2, y3, y4, y5, rfl, rfl, hB, hl⟩
      walk_at "d"
      walk_at "w"
      refine WC__law_cell_at (ns := ns) (by walk_at "rl") (by omega) ?_
      generalize gat ns (13 + (i : Int)) = cell
      walk_at "d"
      walk_at "w"
      refine W.lcRz (n := cell % 4) (fun (j : Nat) => num__law_number (gat ns (16 + 3 * (i : Int) + (j : Int)))) ?_
      walk_at "w"
      refine ⟨rfl, by omega, by omega, fun _ => rfl, fun j D acc hj => ?_, fun D => ?_⟩
      · walk_at "d"
        walk_at "w"
        refine WC__law_cell_at (ns := ns) (by walk_at "rl") (by omega) ?_
        walk_at "w"
        refine WC__law_number ?_
        exact ⟨rfl, by walk_at "sub"⟩
      walk_at "w"
      have hrl : ((List.range (cell % 4).toNat).map fun (j : Nat) => num__law_number (gat ns (16 + 3 * (i : Int) + (j : Int)))).length ≤ 3 := by simp; omega
      have hrb : BdL 133 ((List.range (cell % 4).toNat).map fun (j : Nat) => num__law_number (gat ns (16 + 3 * (i : Int) + (j : Int)))) := fun x hx => by
        obtain ⟨k, _, rfl⟩ := List.mem_map.mp hx
        exact num__law_number_bd _
      generalize ((List.range (cell % 4).toNat).map fun (j : Nat) => num__law_number (gat ns (16 + 3 * (i : Int) + (j : Int)))) = raw at hrl hrb
      refine WC__law_trim (by walk_at "rx") (by omega) fun pr => ?_
      have htl := trim_length_le raw
      obtain ⟨cn, hcn⟩ := Int.eq_ofNat_of_zero_le (show 0 ≤ cell / 4 % 5 by omega)
      walk_at "d"
      walk_at "w"
      refine S.app ?_
      walk_at "w0"
      refine ⟨⟨_, by walk_at "rl"⟩, ?_⟩
      walk_at "w0"
      rw [hcn]
      refine ⟨by simp, fun t => ?_⟩
      refine ⟨_, 3, rfl, by rw [pvs_len, List.length_reverse]; have := hB.len; omega, ?_⟩
      walk_at "d"
      rw [pvs_snoc ps (t, pr, trim raw, cn)]
      refine N.sub ((t, HO.tup [.ref pr, .int ((cn : Nat) : Int)]) :: (pr, HO.lst (zV (trim raw))) :: (pn, HO.lst (pvs ((t, pr, trim raw, cn) :: ps).reverse)) :: pf ps) (by walk_at "sub") ?_
      refine N.perm (fs' := (pn, HO.lst (pvs ((t, pr, trim raw, cn) :: ps).reverse)) :: pf ((t, pr, trim raw, cn) :: ps)) ?_ ?_
      · rw [pf_cons]
        exact .trans (.cons _ (.swap _ _ _)) (.swap _ _ _)
      walk_at "lp"
      exact ⟨(t, pr, trim raw, cn) :: ps, _, _, _, _, rfl, rfl, hB.cons (by omega) _ (by show cn ≤ 60; omega) (by show (trim raw).length ≤ 3; omega) hrb.trim, by rw [List.length_cons]; omega⟩
    rintro σ f ⟨ps, y2, y3, y4, y5, rfl, rfl, hB, hl⟩
    rw [show ((m : Int)).toNat = m by simp] at hl
    walk_at "w"
    refine WC__law_cell_at (ns := ns) (by walk_at "rl") (by omega) ?_
    generalize gat ns 26 = cell
    walk_at "d"
    refine S.cut (fun σ f => ∃ (ps : List Pr4), σ = [some (.ref a), some (.ref pn), y2, some (.int cell), y4, y5] ∧ f = (pn, HO.lst (pvs ps.reverse)) :: pf ps ∧ PrB ps) ?_ ?_
    · walk_at "w"
      walk_at "if"
      · walk_at "w"
        obtain ⟨cn, hcn⟩ := Int.eq_ofNat_of_zero_le (show 0 ≤ cell / 8 % 61 by omega)
        refine S.app ?_
        walk_at "w0"
        refine ⟨⟨_, by walk_at "rl"⟩, ?_⟩
        walk_at "w0"
        refine ⟨by simp, fun pr => ?_⟩
        walk_at "w0"
        rw [hcn]
        refine ⟨by simp, fun t => ?_⟩
        refine ⟨_, 2, rfl, by rw [pvs_len, List.length_reverse]; omega, ?_⟩
        walk_at "d"
        rw [pvs_snoc ps (t, pr, [cell / 8 % 7 - 3, 1], cn)]
        refine N.perm (fs' := (pn, HO.lst (pvs ((t, pr, [cell / 8 % 7 - 3, 1], cn) :: ps).reverse)) :: pf ((t, pr, [cell / 8 % 7 - 3, 1], cn) :: ps)) ?_ ?_
        · rw [pf_cons]
          exact .trans (.cons _ (.swap _ _ _)) (.swap _ _ _)
        walk_at "un"
        refine ⟨(t, pr, [cell / 8 % 7 - 3, 1], cn) :: ps, rfl, rfl, hB.cons (by omega) _ (by show cn ≤ 60; omega) (by simp) fun x hx => ?_⟩
        have e : (2 : Nat) ^ 133 = 10889035741470030830827987437816582766592 := by decide
        rw [e]
        rcases List.mem_cons.mp hx with rfl | hx
        · omega
        · rw [List.mem_singleton.mp hx]; decide
      · walk_at "w"
        walk_at "un"
        exact ⟨ps, rfl, rfl, hB⟩
    clear hB hl
    rintro σ f ⟨ps, rfl, rfl, hB⟩
    refine S.cut (fun σ f => ∃ (pn : Addr) (ps : List Pr4) (z2 : Option V), σ = [some (.ref a), some (.ref pn), z2, some (.int cell), y4, y5] ∧ f = (pn, HO.lst (pvs ps.reverse)) :: pf ps ∧ PrB ps) ?_ ?_
    · walk_at "w"
      walk_at "if"
      · refine N.sub [] (List.nil_sublist _) ?_
        walk_at "w"
        refine W.lcRG (n := cell / 8 % 13) (fun i acc f => ∃ ks : List Pr4, acc = pvs ks.reverse ∧ f = pf ks ∧ PrB ks ∧ ks.length ≤ i) ?_ (fun _ => rfl) ?_ ?_
        · walk_at "w"
          exact ⟨rfl, by omega, [], rfl, rfl, PrB.nil, Nat.le_refl _⟩
        · rintro i D acc f hi ⟨ks, rfl, rfl, hk, hkl⟩
          walk_at "d"
          obtain ⟨cn, hcn⟩ := Int.eq_ofNat_of_zero_le (show 0 ≤ (i : Int) % 3 by omega)
          refine WT.yes ⟨fun _ => ?_, fun h => Bool.noConfusion h⟩
          walk_at "w"
          refine ⟨by simp, fun pr => ?_⟩
          walk_at "w"
          rw [hcn]
          refine ⟨by simp, fun t => ?_⟩
          refine ⟨2, rfl, (t, pr, [cell / 8 % 5 + (i : Int), 1], cn) :: ks, pvs_snoc ks (t, pr, [cell / 8 % 5 + (i : Int), 1], cn), rfl, hk.cons (by omega) _ (by show cn ≤ 60; omega) (by simp) fun x hx => ?_, by rw [List.length_cons]; omega⟩
          have e : (2 : Nat) ^ 133 = 10889035741470030830827987437816582766592 := by decide
          rw [e]
          rcases List.mem_cons.mp hx with rfl | hx
          · omega
          · rw [List.mem_singleton.mp hx]; decide
        · rintro D acc f ⟨ks, rfl, rfl, hk, hkl⟩
          walk_at "d"
          walk_at "un"
          exact ⟨D, ks, _, rfl, rfl, hk⟩
      · walk_at "w"
        walk_at "un"
        exact ⟨pn, ps, _, rfl, rfl, hB⟩
    rintro σ f ⟨pn, ps, z2, rfl, rfl, hB⟩
    walk_at "w"
    have := c ps.reverse hB.rev pn
    refine NR.perm (.cons _ (pf_rev ps).symm) this

end

section
variable {P : Program} {w : World} {K : PySem.W.Frag} {mg : Str → Option Value} {base : Heap}
-- ok__law_pairs
theorem PrB.jnb {ps : List Pr4} (h : PrB ps) {c : Int} (hc : Bd 133 c) : JnB c (pfo ps) 133 133 := by
  refine ⟨by rw [pfo_len]; have := h.len; omega, hc, fun q hq => ?_, by omega⟩
  obtain ⟨h1, h2, h3⟩ := h.all q hq
  refine ⟨by omega, fun i hi => ?_, h3, by omega⟩
  have := pw_len q.1 i
  have m := Nat.mul_le_mul (show i ≤ 60 by omega) (show q.1.length - 1 ≤ 2 by omega)
  omega
theorem cutv_take (xs : List V) {k : Nat} (h : k ≤ xs.length) : cutV xs none (some (k : Int)) = xs.take k := by
  unfold cutV
  rw [HT.sIx_nat, HT.sIx_none, List.drop_zero, Nat.sub_zero, Nat.min_eq_left h]
theorem cutv_drop (xs : List V) {k : Nat} (h : k ≤ xs.length) : cutV xs (some (k : Int)) none = xs.drop k := by
  unfold cutV
  rw [HT.sIx_nat, HT.sIx_none, Nat.min_eq_left h, List.take_of_length_le (by simp)]
def sp__law_joins (K : PySem.W.Frag) : Sp := fun vs H Q _ => ∃ (pn : Addr) (c : Int) (ps : List Pr4), vs = [.int c, .ref pn] ∧ H pn = some (.lst (pvs ps)) ∧ Hps H ps ∧ PrB ps ∧ Bd 133 c ∧ NR Q (.bl true) H []
theorem WC__law_joins {K : PySem.W.Frag} {H0 : Hp} {fs : Fs} {Φ : CV} {pn : Addr} {c : Int} {ps : List Pr4} (h : Rx H0 fs pn (.lst (pvs ps))) (hp : Rps H0 fs ps) (hB : PrB ps) (hc : Bd 133 c) (q : Φ (.bl true) fs) : WC (sp__law_joins K) [.int c, .ref pn] H0 fs Φ :=
  fun H k Q E cc => ⟨pn, c, ps, rfl, h H k, hp.at k, hB, hc, fun H' k' => cc _ _ _ (k.app k') q⟩
theorem ok__law_joins (T : Txt P K mg base) : FnOk P w K mg base CX0 46 T.a__law_joins T.d__law_joins ["_law_number_here", "_law_pairs_here"] (sp__law_joins K) := by
  refine T.F__law_joins.ok sc__law_joins (fun vs H Q E h => ?_) (fun cdv A outer s H vs Q E hr h => ?_)
  · obtain ⟨pn, c, ps, rfl, _⟩ := h; rfl
  · obtain ⟨pn, c, ps, rfl, hn, hps, hB, hc, q⟩ := h
    refine ⟨_, (pss_cons (ps_set (i := 2) sc__law_joins.nd rfl (Or.inl rfl) (pe_call (ok__law_trim T) (hr.mono (by decide)) (by rfl) T.m__law_trim T.F__law_trim.kp T.b__law_trim .nil pass0 (pa_cons (pe_lst (pa_cons (pv 0) pa_nil)) pa_nil)))
      (pss_cons (ps_for PassesOwn.never rfl (pi_list (pv 1)) (pg_name (i := 3) sc__law_joins.nd rfl (Or.inl rfl)) (pss_one (ps_for PassesOwn.never rfl (pi_range1 rfl T.z_range (pa_cons (pe_ix ix_tup (pv 3) pe_int (fun _ _ => rfl)) pa_nil)) (pg_name (i := 4) sc__law_joins.nd rfl (Or.inl rfl)) (pss_one (ps_set (i := 2) sc__law_joins.nd rfl (Or.inl rfl) (pe_call (ok__law_times T) (hr.mono (by decide)) (by rfl) T.m__law_times T.F__law_times.kp T.b__law_times .nil pass0 (pa_cons (pv 2) (pa_cons (pe_ix ix_tup (pv 3) pe_int (fun _ _ => rfl)) pa_nil))))))))
      (pss_cons (ps_setLc (i := 5) (own := [("_law_pair", 3)]) (g := gName 3) (tt := tYes) rfl sc__law_joins.nd rfl rfl (sw_true rfl rfl rfl (by decide +kernel)) (pi_list (pv 1)) (blkOk_by (own := [("_law_pair", 3)]) (N := ["_law_number_here", "_law_pairs_here", "_law_due", "_law_pair", "_law_k", "_law_kept", "_law_found", "_law_place", "_law_odd"]) (sc := defScope s__law_joins) (by decide +kernel)) (fun _ _ _ _ _ => pg_name (i := 3) sc__law_joins.nd rfl (Or.inl rfl)) (fun _ _ _ _ _ => pts_nil) (fun _ _ _ _ _ => (pe_tup (pa_cons (pe_callTy (cListOfK (K := K) rfl) (by rfl) T.z_list (by decide +kernel) (pa_cons (pe_ix (ix_tupK (K := K) rfl) (pv 3) pe_int (fun _ _ => rfl)) pa_nil)) (pa_cons (pe_ix (ix_tupK (K := K) rfl) (pv 3) pe_int (fun _ _ => rfl)) pa_nil)))))
      (pss_cons (ps_set (i := 6) sc__law_joins.nd rfl (Or.inl rfl) (pe_call (ok_joined T) (hr.mono (by decide)) (by rfl) T.m_joined T.F_joined.kp T.b_joined .nil pass0 (pa_cons (pv 0) (pa_cons (pv 1) pa_nil))))
      (pss_cons (ps_if (pt_not (pt_val (pe_call (ok__law_same T) (hr.mono (by decide)) (by rfl) T.m__law_same T.F__law_same.kp T.b__law_same .nil pass0 (pa_cons (pv 6) (pa_cons (pv 2) pa_nil))))) (pss_one (ps_ret pe_bl)) pss_nil)
      (pss_cons (ps_expr (pe_bm PySem.F.plainAttrs_list PySem.F.slot_list_append PySem.F.type_list_append mt_append (pv 6) (pa_cons pe_int pa_nil)))
      (pss_cons (ps_if (PW.pt (pw_or (pt_cmpR (op_neD hr.units) (pv 1) (pv 5) (nomark _)) (pw_or1 (pt_not (pt_val (pe_call (ok__law_same T) (hr.mono (by decide)) (by rfl) T.m__law_same T.F__law_same.kp T.b__law_same .nil pass0 (pa_cons (pe_call (ok_joined T) (hr.mono (by decide)) (by rfl) T.m_joined T.F_joined.kp T.b_joined .nil pass0 (pa_cons (pv 0) (pa_cons (pv 1) pa_nil))) (pa_cons (pv 2) pa_nil)))))))) (pss_one (ps_ret pe_bl)) pss_nil)
      (pss_cons (ps_for PassesOwn.never rfl (pi_list (pe_lst (pa_cons pe_int (pa_cons (pe_callB cLen (by rfl) T.z_len PySem.boot_len (pa_cons (pv 1) pa_nil)) pa_nil)))) (pg_name (i := 7) sc__law_joins.nd rfl (Or.inl rfl)) (pss_cons (ps_set (i := 8) sc__law_joins.nd rfl (Or.inl rfl) (pe_op op_cat (pe_op op_cat (pe_slice sl_list (pv 1) po_none (po_some (pv 7))) (pe_lst (pa_cons (pe_tup (pa_cons (pe_lst (pa_cons pe_int (pa_cons pe_int pa_nil))) (pa_cons (pe_op op_sub (pe_un un_neg pe_int) (pe_callB cAbs (by rfl) T.z_abs (by decide +kernel) (pa_cons (pv 0) pa_nil))) pa_nil))) pa_nil))) (pe_slice sl_list (pv 1) (po_some (pv 7)) po_none)))
      (pss_one (ps_if (PW.pt (pw_or (pt_not (pt_val (pe_call (ok__law_refused T) (hr.mono (by decide)) (by rfl) T.m__law_refused T.F__law_refused.kp T.b__law_refused .nil pass0 (pa_cons (pv 0) (pa_cons (pv 8) (pa_cons pe_bl pa_nil)))))) (pw_or1 (pt_not (pt_val (pe_call (ok__law_refused T) (hr.mono (by decide)) (by rfl) T.m__law_refused T.F__law_refused.kp T.b__law_refused .nil pass0 (pa_cons (pv 0) (pa_cons (pv 8) (pa_cons pe_bl pa_nil))))))))) (pss_one (ps_ret pe_bl)) pss_nil))))
      (pss_one (ps_ret pe_bl)))))))))), ?_⟩
    refine N.go (σ := [some (.int c), some (.ref pn), none, none, none, none, none, none, none]) ?_
    have hJ := hB.jnb hc
    have hlen := hB.len
    have hcl : BdL 133 (trim [c]) := BdL.trim fun y hy => by rw [List.mem_singleton.mp hy]; exact hc
    have hcl1 : (trim [c]).length ≤ 1 := trim_length_le _
    walk_at "w"
    intro l1
    walk_at "w"
    refine WC__law_trim (xs := [c]) (by walk_at "rx") (by simp) fun r0 => ?_
    walk_at "d"
    walk_at "w"
    refine N.sub [(r0, HO.lst (zV (trim [c])))] (by walk_at "sub") ?_
    refine S.forL (a := pn) (xs := pvs ps) (fun i σ f => ∃ r y3 y4, σ = [some (.int c), some (.ref pn), some (.ref r), y3, y4, none, none, none, none] ∧ f = [(r, HO.lst (zV (jn (trim [c]) ((pfo ps).take i))))] ∧ i ≤ ps.length) ?_ ?_ ?_ ?_
    · walk_at "w"
      exact ⟨rfl, by walk_at "rl", r0, none, none, rfl, rfl, Nat.zero_le _⟩
    · rintro i σ f ⟨r, y3, y4, rfl, rfl, _⟩
      walk_at "rl"
    · rintro i x σ f hx ⟨r, y3, y4, rfl, rfl, hi⟩
      refine N.of ?_
      obtain ⟨qq, hqq, rfl⟩ := pvs_get hx
      have hmem := List.mem_of_getElem? hqq
      have hlt := (List.getElem?_eq_some_iff.mp hqq).1
      have hq1 := hps.t qq hmem
      have hq2 := hps.l qq hmem
      obtain ⟨h1, h2, h3⟩ := hB.all _ (mem_pfo hmem)
      have h1' : qq.2.2.2 ≤ 60 := h1
      have h2' : qq.2.2.1.length ≤ 3 := h2
      obtain ⟨jb, jl⟩ := hJ.take (i := i) (by rw [pfo_len]; omega) (trim [c]) hcl1 hcl
      have jt : Tr (jn (trim [c]) ((pfo ps).take i)) := jn_tr _ _ (tr_trim _)
      generalize hacc : jn (trim [c]) ((pfo ps).take i) = acc at jb jl jt
      walk_at "d"
      walk_at "w"
      refine S.forR (n := (qq.2.2.2 : Int)) (fun j σ f => ∃ (r : Addr) (d : List Int) (y : Option V), σ = [some (.int c), some (.ref pn), some (.ref r), some (.ref qq.1), y, none, none, none, none] ∧ f = [(r, HO.lst (zV d))] ∧ Tr d ∧ S d = S acc * S qq.2.2.1 ^ j ∧ BdL (133 + 30 * (101 * (133 + 10) + 16) + j * 148) d ∧ d.length ≤ 30000 + j * 3 ∧ j ≤ qq.2.2.2) ?_ ?_ ?_
      · walk_at "w"
        refine ⟨rfl, by omega, by omega, r, acc, y4, rfl, rfl, jt, ?_, jb.mono (by omega), by omega, Nat.zero_le _⟩
        rw [ser_pow_zero]; grind
      · rintro j σ f hj ⟨r, d, y, rfl, rfl, d1, d2, d3, d4, _⟩
        walk_at "d"
        walk_at "w"
        refine WC__law_times (xs := d) (ys := qq.2.2.1) (133 + 30 * (101 * (133 + 10) + 16) + j * 148) 133 (by walk_at "rx") (by walk_at "rx") ⟨by omega, by omega⟩ d3 h3 (by omega) fun r2 => ?_
        have tl := tm_len d qq.2.2.1
        have tb := tm_bd (c := 15) d3 h3 (by omega)
        walk_at "d"
        refine Lp.sub [(r2, HO.lst (zV (tm d qq.2.2.1)))] (by walk_at "sub") ?_
        refine ⟨r2, _, _, rfl, rfl, tm_tr _ _, ?_, tb.mono (by omega), by omega, by omega⟩
        rw [S_tm, d2, ser_pow_succ]; grind
      · rintro σ f ⟨r, d, y, rfl, rfl, d1, d2, d3, d4, _⟩
        rw [show ((qq.2.2.2 : Int)).toNat = qq.2.2.2 by simp] at d2
        walk_at "lp"
        refine ⟨r, _, _, rfl, ?_, hlt⟩
        have e : d = jn (trim [c]) ((pfo ps).take (i + 1)) := by
          rw [pfo_take hqq, jn_snoc, hacc]
          refine S_inj d1 (tm_tr _ _) ?_
          rw [S_tm, S_pw, d2]
        rw [e]
    rintro σ f ⟨r, y3, y4, rfl, rfl, _⟩
    rw [pvs_len, ← pfo_len ps, List.take_length]
    have hjl : (jn (trim [c]) (pfo ps)).length ≤ 30000 := by
      have := (hJ.take (i := (pfo ps).length) (Nat.le_refl _) (trim [c]) hcl1 hcl).2
      rw [List.take_length] at this
      exact this
    generalize hdue : jn (trim [c]) (pfo ps) = due at hjl
    walk_at "w"
    refine W.lcG (a := pn) (xs := pvs ps) (fun i acc f => ∃ ks : List Pr4, acc = pvs ks.reverse ∧ pfo ks.reverse = (pfo ps).take i ∧ f = pf ks ++ [(r, HO.lst (zV due))]) ?_ ?_ (fun _ => rfl) ?_ ?_
    · walk_at "w"
      exact ⟨rfl, by walk_at "rl", by rw [pvs_len]; omega, [], rfl, rfl, rfl⟩
    · rintro i acc f ⟨ks, rfl, hks, rfl⟩
      walk_at "rl"
    · rintro i x D acc f hx' ⟨ks, rfl, hks, rfl⟩
      obtain ⟨qq, hqq, rfl⟩ := pvs_get hx'
      have hmem := List.mem_of_getElem? hqq
      have hq1 := hps.t qq hmem
      have hq2 := hps.l qq hmem
      walk_at "d"
      refine WT.yes ⟨fun _ => ?_, fun h => Bool.noConfusion h⟩
      walk_at "w"
      intro l
      walk_at "w"
      refine ⟨by simp, fun t => ?_⟩
      refine ⟨2, rfl, (t, l, qq.2.2.1, qq.2.2.2) :: ks, ?_, ?_, rfl⟩
      · unfold pvs; simp
      · rw [pfo_take hqq, ← hks]; unfold pfo; simp
    rintro D acc f ⟨ks, rfl, hks, rfl⟩
    rw [pvs_len, ← pfo_len ps, List.take_length] at hks
    walk_at "d"
    refine N.perm (fs' := (D, HO.lst (pvs ks.reverse)) :: (r, HO.lst (zV due)) :: pf ks) (.cons _ (List.perm_append_comm (l₁ := pf ks) (l₂ := [(r, HO.lst (zV due))]))) ?_
    walk_at "w"
    refine WC_joined (ps := ps) 133 133 (by walk_at "rl") hps.rps hJ fun pj => ?_
    rw [hdue]
    walk_at "d"
    walk_at "w"
    refine WC__law_same (xs := due) (by walk_at "rx") (by walk_at "rx") (by omega) ?_
    walk_at "w"
    walk_at "app"
    · rw [zV_length]; omega
    walk_at "d"
    walk_at "w"
    refine RW.neD (d := ptD (pfo ps)) (e := ptD (pfo ks.reverse)) (hps.rps.data (by walk_at "rl")) ((Rps.own fun x hx => .tail _ (.tail _ (.tail _ ((pf_rev ks).mem_iff.mp hx)))).data (by walk_at "rl")) (ptD_shaped _) (ptD_shaped _) ?_
    rw [ptD_eqv, decide_eq_true hks.symm]
    walk_at "w"
    refine WC_joined (ps := ps) 133 133 (by walk_at "rl") hps.rps hJ fun pj2 => ?_
    rw [hdue]
    walk_at "w"
    refine WC__law_same (xs := due) (by walk_at "rx") (by walk_at "rx") (by omega) ?_
    walk_at "w"
    refine N.sub [] (List.nil_sublist _) ?_
    refine S.forLE (xs := [.int ((0 : Nat) : Int), .int ((ps.length : Nat) : Int)]) (fun l i σ f => ∃ y3 y4 y7 y8 z2 z5 z6, σ = [some (.int c), some (.ref pn), z2, y3, y4, z5, z6, y7, y8] ∧ f = [(l, HO.lst [.int ((0 : Nat) : Int), .int ((ps.length : Nat) : Int)])]) ?_ ?_ ?_ ?_
    · walk_at "w"
      rw [pvs_len]
      refine ⟨by simp, fun l => ?_⟩
      exact ⟨l, rfl, by walk_at "rl", _, _, _, _, _, _, _, rfl, rfl⟩
    · rintro l i σ f ⟨y3, y4, y7, y8, z2, z5, z6, rfl, rfl⟩
      walk_at "rl"
    · rintro l i x σ f hx' ⟨y3, y4, y7, y8, z2, z5, z6, rfl, rfl⟩
      refine N.of ?_
      obtain ⟨k, rfl, hk⟩ : ∃ k : Nat, x = .int (k : Int) ∧ (k = 0 ∨ k = ps.length) := by
        have hm := List.mem_of_getElem? hx'
        rcases List.mem_cons.mp hm with h | hm
        · exact ⟨0, h, .inl rfl⟩
        · exact ⟨ps.length, List.mem_singleton.mp hm, .inr rfl⟩
      have hkl : k ≤ (pvs ps).length := by rw [pvs_len]; omega
      have hpl : (pvs ps).length ≤ 13 := by rw [pvs_len]; exact hlen
      walk_at "d"
      walk_at "w"
      refine RS.l (by walk_at "rl") fun s1 => ?_
      rw [cutv_take _ hkl]
      refine W.lst ?_
      walk_at "w"
      refine ⟨by simp, fun s2 => ?_⟩
      walk_at "w"
      refine ⟨by simp, fun s3 => ?_⟩
      walk_at "w"
      refine ⟨by simp, fun s4 => ?_⟩
      refine RW.cat (by walk_at "rx") (by walk_at "rx") (by rw [List.length_take]; simp; omega) fun s5 => ?_
      walk_at "w"
      refine RS.l (by walk_at "rl") fun s6 => ?_
      rw [cutv_drop _ hkl]
      refine RW.cat (by walk_at "rx") (by walk_at "rx") (by rw [List.length_append, List.length_take, List.length_drop]; simp; omega) fun s7 => ?_
      have hneg : -1 - ((c.natAbs : Nat) : Int) < 0 := by omega
      rcases hk with rfl | rfl
      · have e : (pvs ps).take 0 ++ [V.ref s3] ++ (pvs ps).drop 0 = pvs [] ++ V.ref s3 :: pvs ps := by
          rw [List.take_zero, List.drop_zero]; rfl
        rw [e]
        have hJ0 : JnB c (pfo []) 133 133 := ⟨Nat.zero_le _, hc, fun _ h => (nomatch h), by omega⟩
        walk_at "d"
        walk_at "w"
        refine WC__law_refused (v := .ref s2) (ps := []) (rest := pvs ps) 133 133 (by walk_at "rl") ⟨fun _ h => (nomatch h), fun _ h => (nomatch h)⟩ (by walk_at "rx") hneg hJ0 ?_
        walk_at "w"
        refine WC__law_refused (v := .ref s2) (ps := []) (rest := pvs ps) 133 133 (by walk_at "rl") ⟨fun _ h => (nomatch h), fun _ h => (nomatch h)⟩ (by walk_at "rx") hneg hJ0 ?_
        walk_at "w"
        refine Lp.sub [(l, HO.lst [.int ((0 : Nat) : Int), .int ((ps.length : Nat) : Int)])] (by walk_at "sub") ?_
        exact ⟨_, _, _, _, _, _, _, rfl, rfl⟩
      · have e : (pvs ps).take ps.length ++ [V.ref s3] ++ (pvs ps).drop ps.length = pvs ps ++ V.ref s3 :: [] := by
          rw [← pvs_len ps, List.take_length, List.drop_length, List.append_nil]
        rw [e]
        walk_at "d"
        walk_at "w"
        refine WC__law_refused (v := .ref s2) (ps := ps) (rest := []) 133 133 (by walk_at "rl") hps.rps (by walk_at "rx") hneg hJ ?_
        walk_at "w"
        refine WC__law_refused (v := .ref s2) (ps := ps) (rest := []) 133 133 (by walk_at "rl") hps.rps (by walk_at "rx") hneg hJ ?_
        walk_at "w"
        refine Lp.sub [(l, HO.lst [.int ((0 : Nat) : Int), .int ((ps.length : Nat) : Int)])] (by walk_at "sub") ?_
        exact ⟨_, _, _, _, _, _, _, rfl, rfl⟩
    · rintro l σ f ⟨y3, y4, y7, y8, z2, z5, z6, rfl, rfl⟩
      walk_at "w"
      exact NR.sub q (List.nil_sublist _)

end

section
variable {P : Program} {w : World} {K : PySem.W.Frag} {mg : Str → Option Value} {base : Heap}
theorem PtG.of {row : List Int} (ht : Tr row) (hne : row ≠ []) (hl : row.length ≤ 13) (hb : BdL 670 row) : PtG row 670 ∧ NsB row 670 := by
  have go : ∀ m : Nat, m = row.length - 1 → 1 ≤ m → Go E2 row.length m 670 (670 + 4) 1 1 670 (670 + 4) := fun m hm h1 => by
    by_cases h13 : row.length = 13
    · rw [hm, h13]
      exact chk_go 20 13 12 670 674 1 1 670 674 chk13
    · exact Go2.start (l := 12) (B := 675) (by omega) (by omega) (by omega) (by decide +kernel) (by omega) (by omega) (by omega) h1
  have sl : ∀ xs : List Int, slp xs ≠ [] → 1 ≤ xs.length - 1 := fun xs h => by
    have h1 := List.length_pos_iff.mpr h
    rw [slp_len] at h1
    exact h1
  refine ⟨⟨ht, hne, hl, hb, by omega, fun h => go _ rfl ?_, fun l1 l2 h1 h2 h3 => ?_⟩, ⟨ht, hl, hb, by omega, fun h => go _ rfl (sl _ h)⟩⟩
  · have := sl _ h
    rw [simp_len] at this
    exact this
  · by_cases h12 : l1 = 12
    · have := List.all_eq_true.mp chk12 l2 (List.mem_range.mpr (by omega))
      rw [Bool.or_eq_true] at this
      rcases this with e | e
      · have := Nat.eq_of_beq_eq_true e
        omega
      · rw [h12]; exact chk_go _ _ _ _ _ _ _ _ _ e
    · by_cases h11 : l1 = 11
      · have := List.all_eq_true.mp chk11 l2 (List.mem_range.mpr (by omega))
        rw [Bool.or_eq_true] at this
        rcases this with e | e
        · have := Nat.eq_of_beq_eq_true e
          omega
        · rw [h11]; exact chk_go _ _ _ _ _ _ _ _ _ e
      · exact Go2.start (l := 10) (B := 1781) (by omega) (by omega) (by omega) (by decide +kernel) (by omega) (by omega) (by omega) h3
theorem smp_pw {x : List Int} (h : Smp x) : ∀ n : Nat, Smp (pw x n)
  | 0 => smp_one
  | n + 1 => (Smp.mul (smp_pw h n) h).1
theorem smp_jn : ∀ (Y : List (List Int × Nat)) (acc : List Int), Smp acc → (∀ q ∈ Y, Smp q.1) → Smp (jn acc Y)
  | [], acc, h, _ => h
  | (f, m) :: r, acc, h, hq => smp_jn r (tm acc (pw f m)) (Smp.mul h (smp_pw (hq (f, m) List.mem_cons_self) m)).1 fun q hq' => hq q (List.mem_cons_of_mem _ hq')
/-- the row, so far -/
structure RwI (qs : List Pc3) (num : Int) (n : Nat) (row : List Int) : Prop where
  t : Tr row
  e : S row = Ser.C num * prodS (dueL qs n)
  l : row.length = 1 + wsum qs n
  b : BdL (67 + 48 * wsum qs n) row
theorem pcv_at {qs : List Pc3} {i : Nat} {q : Pc3} (h : qs[i]? = some q) : atI (pcv qs) (i : Int) = some (.ref q.1) := by
  refine atI_nat ?_
  unfold pcv
  rw [List.getElem?_map, h]; rfl
theorem pcc_at {qs : List Pc3} {i : Nat} {q : Pc3} (h : qs[i]? = some q) : gat (pcc qs) (i : Int) = (q.2.2 : Int) := by
  rw [gat_nat]
  unfold pcc
  rw [List.getD_eq_getElem?_getD, List.getElem?_map, h]; rfl
def sp_law (K : PySem.W.Frag) : Sp := fun vs H Q _ => ∃ (a : Addr) (ns : List Int), vs = [.ref a] ∧ SqL K H a (ns.map V.int) ∧ ns.length ≤ 63 ∧ ∀ H', Q (.bl true) H'
theorem ok_law (T : Txt P K mg base) : FnOk P w K mg base CX0 48 T.a_law T.d_law ["_law_script"] (sp_law K) := by
  refine T.F_law.ok sc_law (fun vs H Q E h => ?_) (fun cdv A outer s H vs Q E hr h => ?_)
  · obtain ⟨a, ns, rfl, _⟩ := h; rfl
  · obtain ⟨a, ns, rfl, hA, hl, q⟩ := h
    have hA : SqL K H a (zV ns) := hA
    refine ⟨_, (pss_cons (ps_set (i := 1) sc_law.nd rfl (Or.inl rfl) (pe_call (ok__law_cell_at T) (hr.mono (by decide)) (by rfl) T.m__law_cell_at T.F__law_cell_at.kp T.b__law_cell_at .nil pass0 (pa_cons (pv 0) (pa_cons pe_int pa_nil))))
      (pss_cons (ps_set (i := 2) sc_law.nd rfl (Or.inl rfl) (pe_op op_add pe_int (pe_op op_mod (pe_op op_fdiv (pv 1) pe_int) pe_int)))
      (pss_cut (ps_if (pt_cmpR op_eq (pe_op op_mod (pe_op op_fdiv (pv 1) pe_int) pe_int) pe_int (nomark _)) (pss_one (ps_set (i := 2) sc_law.nd rfl (Or.inl rfl) (pe_op op_add pe_int (pe_op op_mod (pe_op op_fdiv (pv 1) pe_int) (pe_op op_pow pe_int pe_int))))) pss_nil)
      (pss_cons (ps_if (pt_cmpR op_eq (pe_op op_mod (pv 1) pe_int) pe_int (nomark _)) (pss_one (ps_set (i := 2) sc_law.nd rfl (Or.inl rfl) (pe_un un_neg (pv 2)))) pss_nil)
      (pss_cons (ps_set (i := 3) sc_law.nd rfl (Or.inl rfl) (pe_call (ok__law_pieces T) (hr.mono (by decide)) (by rfl) T.m__law_pieces T.F__law_pieces.kp T.b__law_pieces .nil pass0 (pa_cons (pv 0) pa_nil)))
      (pss_cons (ps_set (i := 4) sc_law.nd rfl (Or.inl rfl) (pe_lst (pa_cons (pv 2) pa_nil)))
      (pss_cons (ps_set (i := 5) sc_law.nd rfl (Or.inl rfl) (pe_lst pa_nil))
      (pss_cons (ps_for PassesOwn.never rfl (pi_range2 rfl T.z_range (pa_cons pe_int (pa_cons pe_int pa_nil))) (pg_name (i := 6) sc_law.nd rfl (Or.inl rfl)) (pss_cons (ps_set (i := 7) sc_law.nd rfl (Or.inl rfl) (pe_lst (pa_cons pe_int pa_nil)))
      (pss_cons (ps_for PassesOwn.never rfl (pi_range1 rfl T.z_range (pa_cons (pe_callB cLen (by rfl) T.z_len PySem.boot_len (pa_cons (pe_ix ix_tup (pv 3) pe_int (fun _ _ => rfl)) pa_nil)) pa_nil)) (pg_name (i := 8) sc_law.nd rfl (Or.inl rfl)) (pss_one (ps_if (pt_cmpR op_eq (pe_ix ix_list (pe_ix ix_tup (pv 3) pe_int (fun _ _ => rfl)) (pv 8) (fun _ _ => rfl)) (pv 6) (nomark _)) (pss_one (ps_set (i := 7) sc_law.nd rfl (Or.inl rfl) (pe_call (ok__law_times T) (hr.mono (by decide)) (by rfl) T.m__law_times T.F__law_times.kp T.b__law_times .nil pass0 (pa_cons (pv 7) (pa_cons (pe_ix ix_list (pe_ix ix_tup (pv 3) pe_int (fun _ _ => rfl)) (pv 8) (fun _ _ => rfl)) pa_nil))))) pss_nil)))
      (pss_cut (ps_if (pt_cmpR op_gt (pe_callB cLen (by rfl) T.z_len PySem.boot_len (pa_cons (pv 7) pa_nil)) pe_int (nomark _)) (pss_one (ps_expr (pe_bm PySem.F.plainAttrs_list PySem.F.slot_list_append PySem.F.type_list_append mt_append (pv 5) (pa_cons (pe_tup (pa_cons (pv 7) (pa_cons (pv 6) pa_nil))) pa_nil)))) pss_nil)
      (pss_one (ps_for PassesOwn.never rfl (pi_range1 rfl T.z_range (pa_cons (pv 6) pa_nil)) (pg_name (i := 8) sc_law.nd rfl (Or.inl rfl)) (pss_one (ps_set (i := 4) sc_law.nd rfl (Or.inl rfl) (pe_call (ok__law_times T) (hr.mono (by decide)) (by rfl) T.m__law_times T.F__law_times.kp T.b__law_times .nil pass0 (pa_cons (pv 4) (pa_cons (pv 7) pa_nil)))))))))))
      (pss_cut (ps_if (pt_not (pt_val (pe_call (ok__law_joins T) (hr.mono (by decide)) (by rfl) T.m__law_joins T.F__law_joins.kp T.b__law_joins .nil pass0 (pa_cons (pe_call (ok__law_number T) (hr.mono (by decide)) (by rfl) T.m__law_number T.F__law_number.kp T.b__law_number .nil pass0 (pa_cons (pe_call (ok__law_cell_at T) (hr.mono (by decide)) (by rfl) T.m__law_cell_at T.F__law_cell_at.kp T.b__law_cell_at .nil pass0 (pa_cons (pv 0) (pa_cons pe_int pa_nil))) pa_nil)) (pa_cons (pe_call (ok__law_pairs T) (hr.mono (by decide)) (by rfl) T.m__law_pairs T.F__law_pairs.kp T.b__law_pairs .nil pass0 (pa_cons (pv 0) pa_nil)) pa_nil))))) (pss_one (ps_ret pe_bl)) pss_nil)
      (pss_cons (ps_set (i := 9) sc_law.nd rfl (Or.inl rfl) (pe_call (ok_parts T) (hr.mono (by decide)) (by rfl) T.m_parts T.F_parts.kp T.b_parts .nil pass0 (pa_cons (pe_callTy cListOf (by rfl) T.z_list (by decide +kernel) (pa_cons (pv 4) pa_nil)) pa_nil)))
      (pss_cons (ps_if (PW.pt (pw_or (pt_not (pt_val (pe_callB call_isi (by rfl) T.z_isinstance (by decide +kernel) (pa_cons (pv 9) (pa_cons (pe_bltn (v := .ty "tuple") (by rfl) T.z_tuple (by decide +kernel) rfl) pa_nil))))) (pw_or (pt_cmpR op_ne (pe_callB cLen (by rfl) T.z_len PySem.boot_len (pa_cons (pv 9) pa_nil)) pe_int (nomark _)) (pw_or (pt_not (pt_val (pe_call (ok__law_whole T) (hr.mono (by decide)) (by rfl) T.m__law_whole T.F__law_whole.kp T.b__law_whole .nil pass0 (pa_cons (pe_ix ix_tup (pv 9) pe_int (fun _ _ => rfl)) pa_nil)))) (pw_or1 (pt_cmpR op_ne (pe_ix ix_tup (pv 9) pe_int (fun _ _ => rfl)) (pv 2) (nomark _))))))) (pss_one (ps_ret pe_bl)) pss_nil)
      (pss_cons (ps_if (pt_not (pt_val (pe_call (ok__law_same_pairs T) (hr.mono (by decide)) (by rfl) T.m__law_same_pairs T.F__law_same_pairs.kp T.b__law_same_pairs .nil pass0 (pa_cons (pe_ix ix_tup (pv 9) pe_int (fun _ _ => rfl)) (pa_cons (pv 5) pa_nil))))) (pss_one (ps_ret pe_bl)) pss_nil)
      (pss_cons (ps_if (pt_not (pt_val (pe_call (ok__law_same T) (hr.mono (by decide)) (by rfl) T.m__law_same T.F__law_same.kp T.b__law_same .nil pass0 (pa_cons (pe_call (ok_joined T) (hr.mono (by decide)) (by rfl) T.m_joined T.F_joined.kp T.b_joined .nil pass0 (pa_cons (pe_ix ix_tup (pv 9) pe_int (fun _ _ => rfl)) (pa_cons (pe_ix ix_tup (pv 9) pe_int (fun _ _ => rfl)) pa_nil))) (pa_cons (pv 4) pa_nil))))) (pss_one (ps_ret pe_bl)) pss_nil)
      (pss_cons (ps_set (i := 10) sc_law.nd rfl (Or.inl rfl) (pe_call (ok_no_square T) (hr.mono (by decide)) (by rfl) T.m_no_square T.F_no_square.kp T.b_no_square .nil pass0 (pa_cons (pe_callTy cListOf (by rfl) T.z_list (by decide +kernel) (pa_cons (pv 4) pa_nil)) pa_nil)))
      (pss_cons (ps_if (pt_cmpR (op_neD hr.units) (pe_lc (own := [("_law_count", 6)]) (g := gName 6) rfl sc_law.nd (pi_list (pe_ix ix_tup (pv 3) pe_int (fun _ _ => rfl))) (blkOk_by (own := [("_law_count", 6)]) (N := ["_law_script", "_law_first", "_law_number_here", "_law_told", "_law_row_here", "_law_due", "_law_count", "_law_part", "_law_k", "_law_found", "_law_paper_here"]) (sc := defScope s_law) (by decide +kernel)) (fun _ _ _ _ _ => pg_name (i := 6) sc_law.nd rfl (Or.inl rfl)) (fun _ _ _ _ _ => pts_one (pt_cmpR op_gt (pv 6) pe_int (nomark _))) (fun _ _ _ _ _ => (pv 6))) (pe_lst pa_nil) (nomark _)) (pss_one (ps_ret (pe_cmpR op_isNo (pv 10) pe_non (nomark _)))) pss_nil)
      (pss_one (ps_ret (pe_call (ok__law_paper T) (hr.mono (by decide)) (by rfl) T.m__law_paper T.F__law_paper.kp T.b__law_paper .nil pass0 (pa_cons (pv 10) (pa_cons (pv 4) pa_nil)))))))))))))))))))), ?_⟩
    refine N.go (σ := [some (.ref a), none, none, none, none, none, none, none, none, none, none]) ?_
    walk_at "w"
    refine WC__law_cell_at (ns := ns) (by walk_at "rl") (by omega) ?_
    generalize gat ns 0 = first
    walk_at "d"
    walk_at "w"
    walk_at "d"
    obtain ⟨num, hnum, hnb, hn0⟩ : ∃ num : Int, num = (if first % 2 = 1 then -(if first / 2 % 4 = 1 then 1 + first / 8 % 10 ^ 20 else 1 + first / 8 % 9) else (if first / 2 % 4 = 1 then 1 + first / 8 % 10 ^ 20 else 1 + first / 8 % 9)) ∧ Bd 67 num ∧ num ≠ 0 := by
      refine ⟨_, rfl, ?_, ?_⟩
      · have e20 : (10 : Int) ^ 20 = 100000000000000000000 := by decide
        have e67 : (2 : Nat) ^ 67 = 147573952589676412928 := by decide
        unfold Bd
        rw [e67, e20]
        split <;> split <;> omega
      · have e20 : (10 : Int) ^ 20 = 100000000000000000000 := by decide
        rw [e20]
        split <;> split <;> omega
    refine S.cut (fun σ f => σ = [some (.ref a), some (.int first), some (.int (if first / 2 % 4 = 1 then 1 + first / 8 % 10 ^ 20 else 1 + first / 8 % 9)), none, none, none, none, none, none, none, none] ∧ f = []) ?_ ?_
    · walk_at "w"
      walk_at "if"
      · rename_i h1
        walk_at "w"
        walk_at "d"
        walk_at "un"
        rw [if_pos h1]
        exact ⟨rfl, rfl⟩
      · rename_i h1
        walk_at "w"
        walk_at "un"
        rw [if_neg h1]
        exact ⟨rfl, rfl⟩
    rintro σ f ⟨rfl, rfl⟩
    refine S.seq ?_
    refine S.ifset (.int num) ?_ ?_
    · walk_at "w"
      refine ⟨rfl, fun hb => ?_, fun hb => ?_⟩
      · walk_at "w"
        rw [hnum, if_pos (of_decide_eq_true hb)]
        exact ⟨rfl, rfl⟩
      · rw [hnum, if_neg (of_decide_eq_false hb)]
        rfl
    walk_at "d"
    clear hnum
    walk_at "w"
    refine WC__law_pieces (ns := ns) (by walk_at "rl") fun qs hqs fn cn tp => ?_
    walk_at "d"
    intro H1 k1
    refine N.self' ?_
    have htp := k1.get (.head _)
    have hfn := k1.get (.tail _ (.head _))
    have hcn := k1.get (.tail _ (.tail _ (.head _)))
    have hpc : ∀ x ∈ qs, H1 x.1 = some (.lst (zV x.2.1)) := fun x hx => k1.get (.tail _ (.tail _ (.tail _ (List.mem_append_left _ (mem_pcf hx)))))
    have hA1 : SqL K H1 a (zV ns) := k1.same.seq hA
    clear k1 hA
    have hh : ∀ x ∈ qs, Lin x.2.1 ∧ BdL 40 x.2.1 := fun x hx => ⟨(hqs.all x hx).1, (hqs.all x hx).2.1⟩
    have hql := hqs.len
    have hw12 : wsum qs 12 ≤ 12 := by
      rw [wsum_pcs qs fun x hx => (hqs.all x hx).2.2]
      exact hqs.sum
    walk_at "w"
    intro r0
    walk_at "d"
    walk_at "w"
    intro dn
    walk_at "d"
    walk_at "w"
    refine N.swap ?_
    refine S.forR2 (lo := 1) (n := 13) (fun i σ f => ∃ (rr : Addr) (row : List Int) (ds : List Pr4) (y6 y7 y8 : Option V), σ = [some (.ref a), some (.int first), some (.int num), some (.ref tp), some (.ref rr), some (.ref dn), y6, y7, y8, none, none] ∧ f = (rr, HO.lst (zV row)) :: (dn, HO.lst (pvs ds.reverse)) :: pf ds ∧ pfo ds.reverse = dueL qs i ∧ RwI qs num i row ∧ ds.length ≤ i) ?_ ?_ ?_
    · walk_at "w"
      refine ⟨rfl, by omega, r0, [num], [], none, none, none, rfl, rfl, rfl, ⟨tr_of_last (ys := []) hn0, ?_, rfl, fun x hx => ?_⟩, Nat.le_refl _⟩
      · rw [S_one]
        show Ser.C num = Ser.C num * 1
        grind
      · rw [List.mem_singleton.mp hx]
        exact hnb
    · rintro i σ f hi ⟨rr, row, ds, y6, y7, y8, rfl, rfl, hds, hR, hdl⟩
      have hi12 : i < 12 := by omega
      have hwi : wsum qs (i + 1) ≤ 12 := Nat.le_trans (wsum_mono qs (by omega)) hw12
      have hws : wsum qs (i + 1) = wsum qs i + (i + 1) * (grp qs (i + 1)).length := rfl
      obtain ⟨ps1, ps2, ps3, ps4⟩ := ptr_facts hh hql (i + 1)
      have hgl := grp_len qs (i + 1)
      walk_at "d"
      walk_at "w"
      intro pp0
      walk_at "d"
      walk_at "w"
      refine S.forR (n := (qs.length : Int)) (fun k σ f => ∃ (pp : Addr) (y8 : Option V), σ = [some (.ref a), some (.int first), some (.int num), some (.ref tp), some (.ref rr), some (.ref dn), some (.int (1 + (i : Int))), some (.ref pp), y8, none, none] ∧ f = (pp, HO.lst (zV (ptr (qs.take k) (i + 1)))) :: (rr, HO.lst (zV row)) :: (dn, HO.lst (pvs ds.reverse)) :: pf ds ∧ k ≤ qs.length) ?_ ?_ ?_
      · walk_at "w"
        rw [show ((pcv qs).length : Int) = (qs.length : Int) by unfold pcv; rw [List.length_map]]
        exact ⟨rfl, by omega, by omega, pp0, y8, rfl, rfl, Nat.zero_le _⟩
      · rintro k σ f hk ⟨pp, y8, rfl, rfl, _⟩
        have hkl : k < qs.length := by omega
        obtain ⟨x, hx⟩ : ∃ x, qs[k]? = some x := ⟨_, List.getElem?_eq_getElem hkl⟩
        have hxm := List.mem_of_getElem? hx
        have hxr := hpc x hxm
        have htake : qs.take (k + 1) = qs.take k ++ [x] := by
          rw [List.take_succ_eq_append_getElem hkl, (List.getElem?_eq_some_iff.mp hx).2]
        have hh' : ∀ x ∈ qs.take k, Lin x.2.1 ∧ BdL 40 x.2.1 := fun x hx => hh x (List.mem_of_mem_take hx)
        have hlk : (qs.take k).length ≤ 5 := by rw [List.length_take]; omega
        obtain ⟨t1, t2, t3, _⟩ := ptr_facts hh' hlk (i + 1)
        have hgk := grp_len (qs.take k) (i + 1)
        have hxl := (hh x hxm).1.l
        have hzl : (pcc qs).length = qs.length := by unfold pcc; rw [List.length_map]
        walk_at "d"
        walk_at "w"
        rw [pcc_at hx]
        by_cases hc : (x.2.2 : Int) = 1 + (i : Int)
        · have hc' : x.2.2 = i + 1 := by omega
          rw [decide_eq_true hc]
          walk_at "w"
          refine RW.ixL (by walk_at "rl") (pcv_at hx) ?_
          walk_at "w"
          refine WC__law_times (xs := ptr (qs.take k) (i + 1)) (ys := x.2.1) (1 + 43 * (grp (qs.take k) (i + 1)).length) 40 (by walk_at "rx") (by walk_at "rx") ⟨by omega, by omega⟩ t3 (hh x hxm).2 (by omega) fun r2 => ?_
          walk_at "d"
          refine Lp.sub ((r2, HO.lst (zV (tm (ptr (qs.take k) (i + 1)) x.2.1))) :: (rr, HO.lst (zV row)) :: (dn, HO.lst (pvs ds.reverse)) :: pf ds) (by walk_at "sub") ?_
          refine ⟨r2, _, rfl, ?_, hkl⟩
          rw [htake, ptr_snoc, if_pos hc']
        · have hc' : x.2.2 ≠ i + 1 := by omega
          rw [decide_eq_false hc]
          walk_at "w"
          walk_at "lp"
          refine ⟨pp, _, rfl, ?_, hkl⟩
          rw [htake, ptr_snoc, if_neg hc']
      rintro σ f ⟨pp, y8, rfl, rfl, _⟩
      rw [show ((qs.length : Int)).toNat = qs.length by simp, List.take_length]
      generalize hpt : ptr qs (i + 1) = part at ps1 ps2 ps3 ps4
      walk_at "w"
      refine S.cut (fun σ f => ∃ (ds' : List Pr4) (R : Fs), σ = [some (.ref a), some (.int first), some (.int num), some (.ref tp), some (.ref rr), some (.ref dn), some (.int (1 + (i : Int))), some (.ref pp), y8, none, none] ∧ f = (rr, HO.lst (zV row)) :: (dn, HO.lst (pvs ds'.reverse)) :: R ∧ (pp, HO.lst (zV part)) ∈ R ∧ List.Sublist (pf ds') R ∧ pfo ds'.reverse = dueL qs (i + 1) ∧ ds'.length ≤ i + 1) ?_ ?_
      · walk_at "w"
        walk_at "if"
        · rename_i h1
          have h1' : 1 < part.length := by omega
          refine S.app ?_
          walk_at "w0"
          refine ⟨⟨_, by walk_at "rl"⟩, ?_⟩
          walk_at "w0"
          refine ⟨by simp, fun t => ?_⟩
          refine ⟨_, 3, rfl, by rw [pvs_len, List.length_reverse]; omega, ?_⟩
          walk_at "d"
          rw [show (1 + (i : Int)) = ((i + 1 : Nat) : Int) by omega, pvs_snoc ds (t, pp, part, i + 1)]
          refine N.perm (fs' := (rr, HO.lst (zV row)) :: (dn, HO.lst (pvs ((t, pp, part, i + 1) :: ds).reverse)) :: pf ((t, pp, part, i + 1) :: ds)) ?_ ?_
          · rw [pf_cons]
            exact .trans (.trans (.cons _ (.swap _ _ _)) (.swap _ _ _)) (.cons _ (.trans (.cons _ (.swap _ _ _)) (.swap _ _ _)))
          walk_at "un"
          refine ⟨(t, pp, part, i + 1) :: ds, _, rfl, rfl, ?_, List.Sublist.refl _, ?_, by rw [List.length_cons]; omega⟩
          · rw [pf_cons]
            exact .tail _ (.head _)
          · show _ = dueL qs i ++ _
            rw [hpt, if_pos h1', ← hds]
            unfold pfo
            simp
        · rename_i h1
          walk_at "w"
          refine N.perm (fs' := (rr, HO.lst (zV row)) :: (dn, HO.lst (pvs ds.reverse)) :: (pp, HO.lst (zV part)) :: pf ds) (.trans (.swap _ _ _) (.cons _ (.swap _ _ _))) ?_
          walk_at "un"
          refine ⟨ds, _, rfl, rfl, .head _, .cons _ (.refl _), ?_, by omega⟩
          show _ = dueL qs i ++ _
          rw [hpt, if_neg (by omega), List.append_nil, hds]
      rintro σ f ⟨ds', R, rfl, rfl, hpR, hsR, hds', hdl'⟩
      walk_at "w"
      refine S.forR (n := 1 + (i : Int)) (fun j σ f => ∃ (rr : Addr) (rw' : List Int) (y8 : Option V), σ = [some (.ref a), some (.int first), some (.int num), some (.ref tp), some (.ref rr), some (.ref dn), some (.int (1 + (i : Int))), some (.ref pp), y8, none, none] ∧ f = (rr, HO.lst (zV rw')) :: (dn, HO.lst (pvs ds'.reverse)) :: R ∧ Tr rw' ∧ S rw' = S row * S part ^ j ∧ rw'.length = row.length + j * (grp qs (i + 1)).length ∧ BdL (67 + 48 * (wsum qs i + j * (grp qs (i + 1)).length)) rw' ∧ j ≤ i + 1) ?_ ?_ ?_
      · walk_at "w"
        refine ⟨rfl, by omega, by omega, rr, row, y8, rfl, rfl, hR.t, ?_, by rw [Nat.zero_mul]; rfl, by rw [Nat.zero_mul]; exact hR.b, Nat.zero_le _⟩
        rw [ser_pow_zero]; grind
      · rintro j σ f hj ⟨rr, rw', y8, rfl, rfl, j1, j2, j3, j4, _⟩
        have hjm : j * (grp qs (i + 1)).length ≤ i * (grp qs (i + 1)).length := Nat.mul_le_mul_right _ (by omega)
        have hs2 : (i + 1) * (grp qs (i + 1)).length = i * (grp qs (i + 1)).length + (grp qs (i + 1)).length := Nat.succ_mul _ _
        have hs3 : (j + 1) * (grp qs (i + 1)).length = j * (grp qs (i + 1)).length + (grp qs (i + 1)).length := Nat.succ_mul _ _
        have hrl := hR.l
        walk_at "d"
        walk_at "w"
        refine WC__law_times (xs := rw') (ys := part) (67 + 48 * (wsum qs i + j * (grp qs (i + 1)).length)) (1 + 43 * (grp qs (i + 1)).length) (by walk_at "rx") (Rx.own (.tail _ (.tail _ hpR))) ⟨by omega, by omega⟩ j4 ps3 (by omega) fun r2 => ?_
        have hrne : rw' ≠ [] := fun z => by
          rw [z] at j3
          simp at j3
          omega
        obtain ⟨_, e2, _⟩ := prod_len (A := tm rw' part) (tm_tr _ _) j1 ps1.t hrne ps1.ne (S_tm rw' part)
        have tb := tm_bd (c := 4) j4 ps3 (by omega)
        walk_at "d"
        refine Lp.sub ((r2, HO.lst (zV (tm rw' part))) :: (dn, HO.lst (pvs ds'.reverse)) :: R) (by walk_at "sub") ?_
        refine ⟨r2, _, _, rfl, rfl, tm_tr _ _, ?_, by omega, ?_, by omega⟩
        · rw [S_tm, j2, ser_pow_succ]; grind
        · by_cases hm : (grp qs (i + 1)).length = 0
          · have h1 : part = [1] := ps1.one (by omega)
            have : tm rw' part = rw' := by
              refine S_inj (tm_tr _ _) j1 ?_
              rw [S_tm, h1, S_one]
              have o : (Ser.C 1 : Ser) = 1 := rfl
              rw [o]; grind
            rw [this]
            exact j4.mono (by omega)
          · exact tb.mono (by omega)
      · rintro σ f ⟨rr, rw', y8, rfl, rfl, j1, j2, j3, j4, _⟩
        rw [show (1 + (i : Int)).toNat = i + 1 by omega] at j2 j3 j4
        have hrl := hR.l
        refine Lp.sub ((rr, HO.lst (zV rw')) :: (dn, HO.lst (pvs ds'.reverse)) :: pf ds') (.cons_cons _ (.cons_cons _ hsR)) ?_
        refine ⟨rr, rw', ds', _, _, _, rfl, rfl, hds', ⟨j1, ?_, by omega, j4⟩, hdl'⟩
        rw [j2, prodS_dueL hh hql, hR.e, hpt]; grind
    rintro σ f ⟨rr, row, ds, y6, y7, y8, rfl, rfl, hds, hR, hdl⟩
    rw [show ((13 : Int) - 1).toNat = 12 by decide] at hds hR hdl
    obtain ⟨D, hD, eD⟩ : ∃ D, Smp D ∧ S D = prodS (dueL qs 12) := by
      refine ⟨jn [1] (dueL qs 12), smp_jn _ _ smp_one fun x hx => ((dueL_lp hqs).pts.1 x hx).1, ?_⟩
      rw [S_jn, S_one]
      have o : (Ser.C 1 : Ser) = 1 := rfl
      rw [o]; grind
    obtain ⟨hrne, hsg, hsD⟩ := num_row hR.t hn0 hD (by rw [hR.e, eD])
    have hrl : row.length ≤ 13 := by have := hR.l; omega
    have hrb : BdL 670 row := hR.b.mono (by omega)
    obtain ⟨hG, hNs⟩ := PtG.of hR.t hrne hrl hrb
    have hrt := hR.t
    have hEq : S (simp' row) = prodS (dueL qs 12) := by rw [hsD, eD]
    clear hR
    refine S.cut (fun σ f => σ = [some (.ref a), some (.int first), some (.int num), some (.ref tp), some (.ref rr), some (.ref dn), y6, y7, y8, none, none] ∧ f = (rr, HO.lst (zV row)) :: (dn, HO.lst (pvs ds.reverse)) :: pf ds) ?_ ?_
    · walk_at "w"
      refine WC__law_cell_at (ns := ns) (by walk_at "rl") (by omega) ?_
      walk_at "w"
      refine WC__law_number ?_
      walk_at "w"
      refine WC__law_pairs (ns := ns) (by walk_at "rl") fun ps0 hp0 pn0 => ?_
      walk_at "w"
      refine WC__law_joins (ps := ps0) (by walk_at "rx") (Rps.own fun x hx => .tail _ (List.mem_append_left _ hx)) hp0 (num__law_number_bd _) ?_
      walk_at "w"
      exact Un.sub _ (.cons _ (List.sublist_append_right _ _)) ⟨rfl, rfl⟩
    rintro σ f ⟨rfl, rfl⟩
    walk_at "w"
    intro l0
    walk_at "w"
    refine WC_parts (row := row) 670 (by walk_at "rx") hG fun ps k hk hPt heq hprt pn pp => ?_
    obtain ⟨px, psx, hK⟩ := hprt.know (Smp.simp hrt hrne) hPt heq
    obtain ⟨lins, hl1, hl2⟩ := prodS_lin hh hql 12
    have hfo : pfo ps = dueL qs 12 := one_list ⟨hPt, hK.nsq⟩ (dueL_lp hqs) hl1 (by rw [← heq, hEq, hl2]) hl2
    rw [hsg]
    walk_at "d"
    intro H2 k2
    refine N.self' ?_
    have hps : Hps H2 ps := (Rps.own fun x hx => .tail _ (.tail _ (List.mem_append_left _ hx))).at k2
    have hdsp : Hps H2 ds.reverse := (Rps.own fun x hx => .tail _ (.tail _ (List.mem_append_right _ (.tail _ (.tail _ (.tail _ ((pf_rev ds).mem_iff.mp hx))))))).at k2
    have hpp := k2.get (.head _)
    have hpn := k2.get (.tail _ (.head _))
    have hrr := k2.get (.tail _ (.tail _ (List.mem_append_right _ (.tail _ (.head _)))))
    have hdn := k2.get (.tail _ (.tail _ (List.mem_append_right _ (.tail _ (.tail _ (.head _))))))
    have htp2 := k2.same _ _ htp
    have hcn2 := k2.same _ _ hcn
    clear k2 htp hfn hcn hpc hA1
    have hpart : ∀ x ∈ pfo ps, x.1.length ≤ 13 ∧ BdL 814 x.1 ∧ x.2 ≤ 14 := fun x hx => by
      obtain ⟨hs, h2, h3, h4⟩ := hPt.1 x hx
      have hW := Smp.simp hrt hrne
      have pd := part_pd heq hx h3
      have hxl := pd_len hW.t hW.ne hs.t hs.ne pd
      rw [simp_len] at hxl
      exact ⟨by omega, pd_bd hW.t hW.ne (by rw [simp_len]; exact hrl) (simp_bd hrt hrb) hs.t hs.ne pd, by omega⟩
    have hpl : ps.length ≤ 14 := by
      have := hPt.len
      rw [pfo_len] at this
      omega
    walk_at "w"
    refine WC__law_whole ?_
    walk_at "w"
    rw [decide_eq_true (rfl : num = num)]
    walk_at "w"
    refine WC__law_same_pairs (ps := ps) (ds := ds.reverse) (by walk_at "rx") (by walk_at "rx") hps.rps hdsp.rps (hfo.trans hds.symm) (by omega) (fun x hx => by have := (hpart x hx).1; omega) ?_
    walk_at "w"
    have hJ : JnB num (pfo ps) 670 814 := ⟨by rw [pfo_len]; omega, hnb.mono (by omega), fun x hx => by
      obtain ⟨a1, a2, a3⟩ := hpart x hx
      refine ⟨by omega, fun i hi => ?_, a2, by omega⟩
      have := pw_len x.1 i
      have m := Nat.mul_le_mul (show i ≤ 14 by omega) (show x.1.length - 1 ≤ 12 by omega)
      omega, by omega⟩
    refine WC_joined (ps := ps) 670 814 (by walk_at "rl") hps.rps hJ fun pj => ?_
    have hjr : jn (trim [num]) (pfo ps) = row := by
      refine S_inj (jn_tr _ _ (tr_trim _)) hrt ?_
      rw [S_jn, trim_one hn0, S_one, ← heq, ← hsg, S_simp hrt]
    rw [hjr]
    walk_at "w"
    refine WC__law_same (xs := row) (by walk_at "rx") (by walk_at "rx") (by omega) ?_
    walk_at "w"
    intro l1
    walk_at "w"
    have hsq : ∀ {x s t u v : List Int} {n : Int}, Mt row (slp row) x s t u v n → (1 < x.length ↔ ∃ y ∈ qs, 1 < y.2.2) := fun {x s t u v n} hM => by
      obtain ⟨t2, u2, v2, n2, hM2⟩ := hK.mt
      have hxx : x = px := hM.simp hrt hrne hM2
      rw [hxx, hK.square hPt, hfo]
      constructor
      · rintro ⟨y, hy, h1⟩
        obtain ⟨a1, a2, a3, a4⟩ := dueL_mem hy
        have hf := (ptr_facts hh hql y.2).2.1
        rw [← a1] at hf
        have hgne : grp qs y.2 ≠ [] := fun z => by rw [z] at hf; simp at hf; omega
        obtain ⟨p0, hp0⟩ := List.exists_mem_of_ne_nil _ hgne
        obtain ⟨q0, hq0, _, e0⟩ := grp_mem hp0
        exact ⟨q0, hq0, by omega⟩
      · rintro ⟨y, hy, h1⟩
        have hf := (ptr_facts hh hql y.2.2).2.1
        have : 0 < (grp qs y.2.2).length := List.length_pos_iff.mpr (List.ne_nil_of_mem (mem_grp hy))
        exact ⟨_, mem_dueL (by omega) (by omega) (hqs.all y hy).2.2.2, h1⟩
    have hfilt : ((pcc qs).filter fun x => decide (1 < x)) = [] ↔ ¬ ∃ y ∈ qs, 1 < y.2.2 := by
      rw [List.filter_eq_nil_iff]
      constructor
      · rintro h ⟨y, hy, h1⟩
        have := h (y.2.2 : Int) (List.mem_map.mpr ⟨y, hy, rfl⟩)
        simp at this
        omega
      · intro h x hx
        obtain ⟨y, hy, rfl⟩ := List.mem_map.mp hx
        simp
        have := Nat.le_of_not_lt fun hh : 1 < y.2.2 => h ⟨y, hy, hh⟩
        omega
    have hcl : (pcc qs).length ≤ 100000 := by unfold pcc; rw [List.length_map]; omega
    refine WC_no_square (row := row) 670 (by walk_at "rx") hNs (fun h0 => absurd h0 hrne) fun _ x s t u v n hM hP => ⟨fun hx => ?_, fun hx p4 p5 tq => ?_⟩
    · have hne : ¬ ((pcc qs).filter fun x => decide (1 < x)) = [] := fun z => hfilt.mp z ((hsq hM).mp hx)
      walk_at "d"
      walk_at "w"
      refine W.lcZf (ns := pcc qs) (fun x => decide (1 < x)) ?_
      walk_at "w"
      refine ⟨by walk_at "rl", hcl, fun _ => rfl, fun x D acc hx' => ?_, fun D => ?_⟩
      · walk_at "d"
        walk_at "w"
        refine ⟨rfl, rfl, fun _ => ?_⟩
        walk_at "w"
        exact ⟨rfl, rfl⟩
      walk_at "w"
      intro z
      walk_at "w"
      rw [decide_eq_false hne]
      walk_at "w"
      exact fun H' _ => q H'
    · subst hx
      have hne : ((pcc qs).filter fun x => decide (1 < x)) = [] := hfilt.mpr fun hex => by
        have := (hsq hM).mpr hex
        exact absurd this (by decide)
      walk_at "d"
      walk_at "w"
      refine W.lcZf (ns := pcc qs) (fun x => decide (1 < x)) ?_
      walk_at "w"
      refine ⟨by walk_at "rl", hcl, fun _ => rfl, fun x D acc hx' => ?_, fun D => ?_⟩
      · walk_at "d"
        walk_at "w"
        refine ⟨rfl, rfl, fun _ => ?_⟩
        walk_at "w"
        exact ⟨rfl, rfl⟩
      walk_at "w"
      intro z
      walk_at "w"
      rw [decide_eq_true hne]
      walk_at "w"
      refine WC__law_paper (row := row) (u := u) (v := v) 670 (by walk_at "rx") (by walk_at "rx") (by walk_at "rx") (by walk_at "rx") hM.cb hP (by omega) hrb (by omega) ?_
      exact fun H' _ => q H'

end
open PySem PySem.Spec PyProof.Rows L2 in
theorem all_mk {l : PySem.W.OpenLaw} {w : World} {K : PySem.W.Frag} {h : Heap} {mg : Str → Option Value} {fa : Addr} (X : K.In h) (G : h.Ns mainGlobals mg) (hfa : mg "law" = some (.ref fa))
    {f_greatest f_content f_signed_content f_simple f_trimmed f_made f_number_at f_minus f_scaled f_times f_raised f_slope f_divided f_quotient f_shared f_begun f_behind f_meet f_parts f_joined f_no_square f__law_whole f__law_cell_at f__law_trim f__law_same f__law_times f__law_greatest f__law_plus f__law_row f__law_paper f__law_piece f__law_pieces f__law_same_pairs f__law_refused f__law_number f__law_pairs f__law_joins f_law : Addr} {od_greatest an_greatest od_content an_content od_signed_content an_signed_content od_simple an_simple od_trimmed an_trimmed od_made an_made od_number_at an_number_at od_minus an_minus od_scaled an_scaled od_times an_times od_raised an_raised od_slope an_slope od_divided an_divided od_quotient an_quotient od_shared an_shared od_begun an_begun od_behind an_behind od_meet an_meet od_parts an_parts od_joined an_joined od_no_square an_no_square od__law_whole an__law_whole od__law_cell_at an__law_cell_at od__law_trim an__law_trim od__law_same an__law_same od__law_times an__law_times od__law_greatest an__law_greatest od__law_plus an__law_plus od__law_row an__law_row od__law_paper an__law_paper od__law_piece an__law_piece od__law_pieces an__law_pieces od__law_same_pairs an__law_same_pairs od__law_refused an__law_refused od__law_number an__law_number od__law_pairs an__law_pairs od__law_joins an__law_joins od_law an_law : Option Addr} {sl_greatest sl_content sl_signed_content sl_simple sl_trimmed sl_made sl_number_at sl_minus sl_scaled sl_times sl_raised sl_slope sl_divided sl_quotient sl_shared sl_begun sl_behind sl_meet sl_parts sl_joined sl_no_square sl__law_whole sl__law_cell_at sl__law_trim sl__law_same sl__law_times sl__law_greatest sl__law_plus sl__law_row sl__law_paper sl__law_piece sl__law_pieces sl__law_same_pairs sl__law_refused sl__law_number sl__law_pairs sl__law_joins sl_law : Array (Option Value)} {oc_greatest kV_greatest dc_greatest pm_greatest cd_greatest ct_greatest oc_content kV_content dc_content pm_content cd_content ct_content oc_signed_content kV_signed_content dc_signed_content pm_signed_content cd_signed_content ct_signed_content oc_simple kV_simple dc_simple pm_simple cd_simple ct_simple oc_trimmed kV_trimmed dc_trimmed pm_trimmed cd_trimmed ct_trimmed oc_made kV_made dc_made pm_made cd_made ct_made oc_number_at kV_number_at dc_number_at pm_number_at cd_number_at ct_number_at oc_minus kV_minus dc_minus pm_minus cd_minus ct_minus oc_scaled kV_scaled dc_scaled pm_scaled cd_scaled ct_scaled oc_times kV_times dc_times pm_times cd_times ct_times oc_raised kV_raised dc_raised pm_raised cd_raised ct_raised oc_slope kV_slope dc_slope pm_slope cd_slope ct_slope oc_divided kV_divided dc_divided pm_divided cd_divided ct_divided oc_quotient kV_quotient dc_quotient pm_quotient cd_quotient ct_quotient oc_shared kV_shared dc_shared pm_shared cd_shared ct_shared oc_begun kV_begun dc_begun pm_begun cd_begun ct_begun oc_behind kV_behind dc_behind pm_behind cd_behind ct_behind oc_meet kV_meet dc_meet pm_meet cd_meet ct_meet oc_parts kV_parts dc_parts pm_parts cd_parts ct_parts oc_joined kV_joined dc_joined pm_joined cd_joined ct_joined oc_no_square kV_no_square dc_no_square pm_no_square cd_no_square ct_no_square oc__law_whole kV__law_whole dc__law_whole pm__law_whole cd__law_whole ct__law_whole oc__law_cell_at kV__law_cell_at dc__law_cell_at pm__law_cell_at cd__law_cell_at ct__law_cell_at oc__law_trim kV__law_trim dc__law_trim pm__law_trim cd__law_trim ct__law_trim oc__law_same kV__law_same dc__law_same pm__law_same cd__law_same ct__law_same oc__law_times kV__law_times dc__law_times pm__law_times cd__law_times ct__law_times oc__law_greatest kV__law_greatest dc__law_greatest pm__law_greatest cd__law_greatest ct__law_greatest oc__law_plus kV__law_plus dc__law_plus pm__law_plus cd__law_plus ct__law_plus oc__law_row kV__law_row dc__law_row pm__law_row cd__law_row ct__law_row oc__law_paper kV__law_paper dc__law_paper pm__law_paper cd__law_paper ct__law_paper oc__law_piece kV__law_piece dc__law_piece pm__law_piece cd__law_piece ct__law_piece oc__law_pieces kV__law_pieces dc__law_pieces pm__law_pieces cd__law_pieces ct__law_pieces oc__law_same_pairs kV__law_same_pairs dc__law_same_pairs pm__law_same_pairs cd__law_same_pairs ct__law_same_pairs oc__law_refused kV__law_refused dc__law_refused pm__law_refused cd__law_refused ct__law_refused oc__law_number kV__law_number dc__law_number pm__law_number cd__law_number ct__law_number oc__law_pairs kV__law_pairs dc__law_pairs pm__law_pairs cd__law_pairs ct__law_pairs oc__law_joins kV__law_joins dc__law_joins pm__law_joins cd__law_joins ct__law_joins oc_law kV_law dc_law pm_law cd_law ct_law : Value}
    (a_greatest : PySem.W.nsIn K mainGlobals "greatest" = some (some (.ref f_greatest))) (l_greatest : K.lookup f_greatest = some ⟨oc_greatest, od_greatest, .func (PySem.W.fnOf "greatest" "greatest" (defArgs s_greatest) (defBody s_greatest) (defScope s_greatest) .none kV_greatest dc_greatest pm_greatest an_greatest cd_greatest ct_greatest), sl_greatest⟩) (c_greatest : PySem.W.codeIn K cd_greatest "greatest" = true) (k_greatest : PySem.W.keepIn K (.ref f_greatest) = true)
    (a_content : PySem.W.nsIn K mainGlobals "content" = some (some (.ref f_content))) (l_content : K.lookup f_content = some ⟨oc_content, od_content, .func (PySem.W.fnOf "content" "content" (defArgs s_content) (defBody s_content) (defScope s_content) .none kV_content dc_content pm_content an_content cd_content ct_content), sl_content⟩) (c_content : PySem.W.codeIn K cd_content "content" = true) (k_content : PySem.W.keepIn K (.ref f_content) = true)
    (a_signed_content : PySem.W.nsIn K mainGlobals "signed_content" = some (some (.ref f_signed_content))) (l_signed_content : K.lookup f_signed_content = some ⟨oc_signed_content, od_signed_content, .func (PySem.W.fnOf "signed_content" "signed_content" (defArgs s_signed_content) (defBody s_signed_content) (defScope s_signed_content) .none kV_signed_content dc_signed_content pm_signed_content an_signed_content cd_signed_content ct_signed_content), sl_signed_content⟩) (c_signed_content : PySem.W.codeIn K cd_signed_content "signed_content" = true) (k_signed_content : PySem.W.keepIn K (.ref f_signed_content) = true)
    (a_simple : PySem.W.nsIn K mainGlobals "simple" = some (some (.ref f_simple))) (l_simple : K.lookup f_simple = some ⟨oc_simple, od_simple, .func (PySem.W.fnOf "simple" "simple" (defArgs s_simple) (defBody s_simple) (defScope s_simple) .none kV_simple dc_simple pm_simple an_simple cd_simple ct_simple), sl_simple⟩) (c_simple : PySem.W.codeIn K cd_simple "simple" = true) (k_simple : PySem.W.keepIn K (.ref f_simple) = true)
    (a_trimmed : PySem.W.nsIn K mainGlobals "trimmed" = some (some (.ref f_trimmed))) (l_trimmed : K.lookup f_trimmed = some ⟨oc_trimmed, od_trimmed, .func (PySem.W.fnOf "trimmed" "trimmed" (defArgs s_trimmed) (defBody s_trimmed) (defScope s_trimmed) .none kV_trimmed dc_trimmed pm_trimmed an_trimmed cd_trimmed ct_trimmed), sl_trimmed⟩) (c_trimmed : PySem.W.codeIn K cd_trimmed "trimmed" = true) (k_trimmed : PySem.W.keepIn K (.ref f_trimmed) = true)
    (a_made : PySem.W.nsIn K mainGlobals "made" = some (some (.ref f_made))) (l_made : K.lookup f_made = some ⟨oc_made, od_made, .func (PySem.W.fnOf "made" "made" (defArgs s_made) (defBody s_made) (defScope s_made) .none kV_made dc_made pm_made an_made cd_made ct_made), sl_made⟩) (c_made : PySem.W.codeIn K cd_made "made" = true) (k_made : PySem.W.keepIn K (.ref f_made) = true)
    (a_number_at : PySem.W.nsIn K mainGlobals "number_at" = some (some (.ref f_number_at))) (l_number_at : K.lookup f_number_at = some ⟨oc_number_at, od_number_at, .func (PySem.W.fnOf "number_at" "number_at" (defArgs s_number_at) (defBody s_number_at) (defScope s_number_at) .none kV_number_at dc_number_at pm_number_at an_number_at cd_number_at ct_number_at), sl_number_at⟩) (c_number_at : PySem.W.codeIn K cd_number_at "number_at" = true) (k_number_at : PySem.W.keepIn K (.ref f_number_at) = true)
    (a_minus : PySem.W.nsIn K mainGlobals "minus" = some (some (.ref f_minus))) (l_minus : K.lookup f_minus = some ⟨oc_minus, od_minus, .func (PySem.W.fnOf "minus" "minus" (defArgs s_minus) (defBody s_minus) (defScope s_minus) .none kV_minus dc_minus pm_minus an_minus cd_minus ct_minus), sl_minus⟩) (c_minus : PySem.W.codeIn K cd_minus "minus" = true) (k_minus : PySem.W.keepIn K (.ref f_minus) = true)
    (a_scaled : PySem.W.nsIn K mainGlobals "scaled" = some (some (.ref f_scaled))) (l_scaled : K.lookup f_scaled = some ⟨oc_scaled, od_scaled, .func (PySem.W.fnOf "scaled" "scaled" (defArgs s_scaled) (defBody s_scaled) (defScope s_scaled) .none kV_scaled dc_scaled pm_scaled an_scaled cd_scaled ct_scaled), sl_scaled⟩) (c_scaled : PySem.W.codeIn K cd_scaled "scaled" = true) (k_scaled : PySem.W.keepIn K (.ref f_scaled) = true)
    (a_times : PySem.W.nsIn K mainGlobals "times" = some (some (.ref f_times))) (l_times : K.lookup f_times = some ⟨oc_times, od_times, .func (PySem.W.fnOf "times" "times" (defArgs s_times) (defBody s_times) (defScope s_times) .none kV_times dc_times pm_times an_times cd_times ct_times), sl_times⟩) (c_times : PySem.W.codeIn K cd_times "times" = true) (k_times : PySem.W.keepIn K (.ref f_times) = true)
    (a_raised : PySem.W.nsIn K mainGlobals "raised" = some (some (.ref f_raised))) (l_raised : K.lookup f_raised = some ⟨oc_raised, od_raised, .func (PySem.W.fnOf "raised" "raised" (defArgs s_raised) (defBody s_raised) (defScope s_raised) .none kV_raised dc_raised pm_raised an_raised cd_raised ct_raised), sl_raised⟩) (c_raised : PySem.W.codeIn K cd_raised "raised" = true) (k_raised : PySem.W.keepIn K (.ref f_raised) = true)
    (a_slope : PySem.W.nsIn K mainGlobals "slope" = some (some (.ref f_slope))) (l_slope : K.lookup f_slope = some ⟨oc_slope, od_slope, .func (PySem.W.fnOf "slope" "slope" (defArgs s_slope) (defBody s_slope) (defScope s_slope) .none kV_slope dc_slope pm_slope an_slope cd_slope ct_slope), sl_slope⟩) (c_slope : PySem.W.codeIn K cd_slope "slope" = true) (k_slope : PySem.W.keepIn K (.ref f_slope) = true)
    (a_divided : PySem.W.nsIn K mainGlobals "divided" = some (some (.ref f_divided))) (l_divided : K.lookup f_divided = some ⟨oc_divided, od_divided, .func (PySem.W.fnOf "divided" "divided" (defArgs s_divided) (defBody s_divided) (defScope s_divided) .none kV_divided dc_divided pm_divided an_divided cd_divided ct_divided), sl_divided⟩) (c_divided : PySem.W.codeIn K cd_divided "divided" = true) (k_divided : PySem.W.keepIn K (.ref f_divided) = true)
    (a_quotient : PySem.W.nsIn K mainGlobals "quotient" = some (some (.ref f_quotient))) (l_quotient : K.lookup f_quotient = some ⟨oc_quotient, od_quotient, .func (PySem.W.fnOf "quotient" "quotient" (defArgs s_quotient) (defBody s_quotient) (defScope s_quotient) .none kV_quotient dc_quotient pm_quotient an_quotient cd_quotient ct_quotient), sl_quotient⟩) (c_quotient : PySem.W.codeIn K cd_quotient "quotient" = true) (k_quotient : PySem.W.keepIn K (.ref f_quotient) = true)
    (a_shared : PySem.W.nsIn K mainGlobals "shared" = some (some (.ref f_shared))) (l_shared : K.lookup f_shared = some ⟨oc_shared, od_shared, .func (PySem.W.fnOf "shared" "shared" (defArgs s_shared) (defBody s_shared) (defScope s_shared) .none kV_shared dc_shared pm_shared an_shared cd_shared ct_shared), sl_shared⟩) (c_shared : PySem.W.codeIn K cd_shared "shared" = true) (k_shared : PySem.W.keepIn K (.ref f_shared) = true)
    (a_begun : PySem.W.nsIn K mainGlobals "begun" = some (some (.ref f_begun))) (l_begun : K.lookup f_begun = some ⟨oc_begun, od_begun, .func (PySem.W.fnOf "begun" "begun" (defArgs s_begun) (defBody s_begun) (defScope s_begun) .none kV_begun dc_begun pm_begun an_begun cd_begun ct_begun), sl_begun⟩) (c_begun : PySem.W.codeIn K cd_begun "begun" = true) (k_begun : PySem.W.keepIn K (.ref f_begun) = true)
    (a_behind : PySem.W.nsIn K mainGlobals "behind" = some (some (.ref f_behind))) (l_behind : K.lookup f_behind = some ⟨oc_behind, od_behind, .func (PySem.W.fnOf "behind" "behind" (defArgs s_behind) (defBody s_behind) (defScope s_behind) .none kV_behind dc_behind pm_behind an_behind cd_behind ct_behind), sl_behind⟩) (c_behind : PySem.W.codeIn K cd_behind "behind" = true) (k_behind : PySem.W.keepIn K (.ref f_behind) = true)
    (a_meet : PySem.W.nsIn K mainGlobals "meet" = some (some (.ref f_meet))) (l_meet : K.lookup f_meet = some ⟨oc_meet, od_meet, .func (PySem.W.fnOf "meet" "meet" (defArgs s_meet) (defBody s_meet) (defScope s_meet) .none kV_meet dc_meet pm_meet an_meet cd_meet ct_meet), sl_meet⟩) (c_meet : PySem.W.codeIn K cd_meet "meet" = true) (k_meet : PySem.W.keepIn K (.ref f_meet) = true)
    (a_parts : PySem.W.nsIn K mainGlobals "parts" = some (some (.ref f_parts))) (l_parts : K.lookup f_parts = some ⟨oc_parts, od_parts, .func (PySem.W.fnOf "parts" "parts" (defArgs s_parts) (defBody s_parts) (defScope s_parts) .none kV_parts dc_parts pm_parts an_parts cd_parts ct_parts), sl_parts⟩) (c_parts : PySem.W.codeIn K cd_parts "parts" = true) (k_parts : PySem.W.keepIn K (.ref f_parts) = true)
    (a_joined : PySem.W.nsIn K mainGlobals "joined" = some (some (.ref f_joined))) (l_joined : K.lookup f_joined = some ⟨oc_joined, od_joined, .func (PySem.W.fnOf "joined" "joined" (defArgs s_joined) (defBody s_joined) (defScope s_joined) .none kV_joined dc_joined pm_joined an_joined cd_joined ct_joined), sl_joined⟩) (c_joined : PySem.W.codeIn K cd_joined "joined" = true) (k_joined : PySem.W.keepIn K (.ref f_joined) = true)
    (a_no_square : PySem.W.nsIn K mainGlobals "no_square" = some (some (.ref f_no_square))) (l_no_square : K.lookup f_no_square = some ⟨oc_no_square, od_no_square, .func (PySem.W.fnOf "no_square" "no_square" (defArgs s_no_square) (defBody s_no_square) (defScope s_no_square) .none kV_no_square dc_no_square pm_no_square an_no_square cd_no_square ct_no_square), sl_no_square⟩) (c_no_square : PySem.W.codeIn K cd_no_square "no_square" = true) (k_no_square : PySem.W.keepIn K (.ref f_no_square) = true)
    (a__law_whole : PySem.W.nsIn K mainGlobals "_law_whole" = some (some (.ref f__law_whole))) (l__law_whole : K.lookup f__law_whole = some ⟨oc__law_whole, od__law_whole, .func (PySem.W.fnOf "_law_whole" "_law_whole" (defArgs s__law_whole) (defBody s__law_whole) (defScope s__law_whole) .none kV__law_whole dc__law_whole pm__law_whole an__law_whole cd__law_whole ct__law_whole), sl__law_whole⟩) (c__law_whole : PySem.W.codeIn K cd__law_whole "_law_whole" = true) (k__law_whole : PySem.W.keepIn K (.ref f__law_whole) = true)
    (a__law_cell_at : PySem.W.nsIn K mainGlobals "_law_cell_at" = some (some (.ref f__law_cell_at))) (l__law_cell_at : K.lookup f__law_cell_at = some ⟨oc__law_cell_at, od__law_cell_at, .func (PySem.W.fnOf "_law_cell_at" "_law_cell_at" (defArgs s__law_cell_at) (defBody s__law_cell_at) (defScope s__law_cell_at) .none kV__law_cell_at dc__law_cell_at pm__law_cell_at an__law_cell_at cd__law_cell_at ct__law_cell_at), sl__law_cell_at⟩) (c__law_cell_at : PySem.W.codeIn K cd__law_cell_at "_law_cell_at" = true) (k__law_cell_at : PySem.W.keepIn K (.ref f__law_cell_at) = true)
    (a__law_trim : PySem.W.nsIn K mainGlobals "_law_trim" = some (some (.ref f__law_trim))) (l__law_trim : K.lookup f__law_trim = some ⟨oc__law_trim, od__law_trim, .func (PySem.W.fnOf "_law_trim" "_law_trim" (defArgs s__law_trim) (defBody s__law_trim) (defScope s__law_trim) .none kV__law_trim dc__law_trim pm__law_trim an__law_trim cd__law_trim ct__law_trim), sl__law_trim⟩) (c__law_trim : PySem.W.codeIn K cd__law_trim "_law_trim" = true) (k__law_trim : PySem.W.keepIn K (.ref f__law_trim) = true)
    (a__law_same : PySem.W.nsIn K mainGlobals "_law_same" = some (some (.ref f__law_same))) (l__law_same : K.lookup f__law_same = some ⟨oc__law_same, od__law_same, .func (PySem.W.fnOf "_law_same" "_law_same" (defArgs s__law_same) (defBody s__law_same) (defScope s__law_same) .none kV__law_same dc__law_same pm__law_same an__law_same cd__law_same ct__law_same), sl__law_same⟩) (c__law_same : PySem.W.codeIn K cd__law_same "_law_same" = true) (k__law_same : PySem.W.keepIn K (.ref f__law_same) = true)
    (a__law_times : PySem.W.nsIn K mainGlobals "_law_times" = some (some (.ref f__law_times))) (l__law_times : K.lookup f__law_times = some ⟨oc__law_times, od__law_times, .func (PySem.W.fnOf "_law_times" "_law_times" (defArgs s__law_times) (defBody s__law_times) (defScope s__law_times) .none kV__law_times dc__law_times pm__law_times an__law_times cd__law_times ct__law_times), sl__law_times⟩) (c__law_times : PySem.W.codeIn K cd__law_times "_law_times" = true) (k__law_times : PySem.W.keepIn K (.ref f__law_times) = true)
    (a__law_greatest : PySem.W.nsIn K mainGlobals "_law_greatest" = some (some (.ref f__law_greatest))) (l__law_greatest : K.lookup f__law_greatest = some ⟨oc__law_greatest, od__law_greatest, .func (PySem.W.fnOf "_law_greatest" "_law_greatest" (defArgs s__law_greatest) (defBody s__law_greatest) (defScope s__law_greatest) .none kV__law_greatest dc__law_greatest pm__law_greatest an__law_greatest cd__law_greatest ct__law_greatest), sl__law_greatest⟩) (c__law_greatest : PySem.W.codeIn K cd__law_greatest "_law_greatest" = true) (k__law_greatest : PySem.W.keepIn K (.ref f__law_greatest) = true)
    (a__law_plus : PySem.W.nsIn K mainGlobals "_law_plus" = some (some (.ref f__law_plus))) (l__law_plus : K.lookup f__law_plus = some ⟨oc__law_plus, od__law_plus, .func (PySem.W.fnOf "_law_plus" "_law_plus" (defArgs s__law_plus) (defBody s__law_plus) (defScope s__law_plus) .none kV__law_plus dc__law_plus pm__law_plus an__law_plus cd__law_plus ct__law_plus), sl__law_plus⟩) (c__law_plus : PySem.W.codeIn K cd__law_plus "_law_plus" = true) (k__law_plus : PySem.W.keepIn K (.ref f__law_plus) = true)
    (a__law_row : PySem.W.nsIn K mainGlobals "_law_row" = some (some (.ref f__law_row))) (l__law_row : K.lookup f__law_row = some ⟨oc__law_row, od__law_row, .func (PySem.W.fnOf "_law_row" "_law_row" (defArgs s__law_row) (defBody s__law_row) (defScope s__law_row) .none kV__law_row dc__law_row pm__law_row an__law_row cd__law_row ct__law_row), sl__law_row⟩) (c__law_row : PySem.W.codeIn K cd__law_row "_law_row" = true) (k__law_row : PySem.W.keepIn K (.ref f__law_row) = true)
    (a__law_paper : PySem.W.nsIn K mainGlobals "_law_paper" = some (some (.ref f__law_paper))) (l__law_paper : K.lookup f__law_paper = some ⟨oc__law_paper, od__law_paper, .func (PySem.W.fnOf "_law_paper" "_law_paper" (defArgs s__law_paper) (defBody s__law_paper) (defScope s__law_paper) .none kV__law_paper dc__law_paper pm__law_paper an__law_paper cd__law_paper ct__law_paper), sl__law_paper⟩) (c__law_paper : PySem.W.codeIn K cd__law_paper "_law_paper" = true) (k__law_paper : PySem.W.keepIn K (.ref f__law_paper) = true)
    (a__law_piece : PySem.W.nsIn K mainGlobals "_law_piece" = some (some (.ref f__law_piece))) (l__law_piece : K.lookup f__law_piece = some ⟨oc__law_piece, od__law_piece, .func (PySem.W.fnOf "_law_piece" "_law_piece" (defArgs s__law_piece) (defBody s__law_piece) (defScope s__law_piece) .none kV__law_piece dc__law_piece pm__law_piece an__law_piece cd__law_piece ct__law_piece), sl__law_piece⟩) (c__law_piece : PySem.W.codeIn K cd__law_piece "_law_piece" = true) (k__law_piece : PySem.W.keepIn K (.ref f__law_piece) = true)
    (a__law_pieces : PySem.W.nsIn K mainGlobals "_law_pieces" = some (some (.ref f__law_pieces))) (l__law_pieces : K.lookup f__law_pieces = some ⟨oc__law_pieces, od__law_pieces, .func (PySem.W.fnOf "_law_pieces" "_law_pieces" (defArgs s__law_pieces) (defBody s__law_pieces) (defScope s__law_pieces) .none kV__law_pieces dc__law_pieces pm__law_pieces an__law_pieces cd__law_pieces ct__law_pieces), sl__law_pieces⟩) (c__law_pieces : PySem.W.codeIn K cd__law_pieces "_law_pieces" = true) (k__law_pieces : PySem.W.keepIn K (.ref f__law_pieces) = true)
    (a__law_same_pairs : PySem.W.nsIn K mainGlobals "_law_same_pairs" = some (some (.ref f__law_same_pairs))) (l__law_same_pairs : K.lookup f__law_same_pairs = some ⟨oc__law_same_pairs, od__law_same_pairs, .func (PySem.W.fnOf "_law_same_pairs" "_law_same_pairs" (defArgs s__law_same_pairs) (defBody s__law_same_pairs) (defScope s__law_same_pairs) .none kV__law_same_pairs dc__law_same_pairs pm__law_same_pairs an__law_same_pairs cd__law_same_pairs ct__law_same_pairs), sl__law_same_pairs⟩) (c__law_same_pairs : PySem.W.codeIn K cd__law_same_pairs "_law_same_pairs" = true) (k__law_same_pairs : PySem.W.keepIn K (.ref f__law_same_pairs) = true)
    (a__law_refused : PySem.W.nsIn K mainGlobals "_law_refused" = some (some (.ref f__law_refused))) (l__law_refused : K.lookup f__law_refused = some ⟨oc__law_refused, od__law_refused, .func (PySem.W.fnOf "_law_refused" "_law_refused" (defArgs s__law_refused) (defBody s__law_refused) (defScope s__law_refused) .none kV__law_refused dc__law_refused pm__law_refused an__law_refused cd__law_refused ct__law_refused), sl__law_refused⟩) (c__law_refused : PySem.W.codeIn K cd__law_refused "_law_refused" = true) (k__law_refused : PySem.W.keepIn K (.ref f__law_refused) = true)
    (a__law_number : PySem.W.nsIn K mainGlobals "_law_number" = some (some (.ref f__law_number))) (l__law_number : K.lookup f__law_number = some ⟨oc__law_number, od__law_number, .func (PySem.W.fnOf "_law_number" "_law_number" (defArgs s__law_number) (defBody s__law_number) (defScope s__law_number) .none kV__law_number dc__law_number pm__law_number an__law_number cd__law_number ct__law_number), sl__law_number⟩) (c__law_number : PySem.W.codeIn K cd__law_number "_law_number" = true) (k__law_number : PySem.W.keepIn K (.ref f__law_number) = true)
    (a__law_pairs : PySem.W.nsIn K mainGlobals "_law_pairs" = some (some (.ref f__law_pairs))) (l__law_pairs : K.lookup f__law_pairs = some ⟨oc__law_pairs, od__law_pairs, .func (PySem.W.fnOf "_law_pairs" "_law_pairs" (defArgs s__law_pairs) (defBody s__law_pairs) (defScope s__law_pairs) .none kV__law_pairs dc__law_pairs pm__law_pairs an__law_pairs cd__law_pairs ct__law_pairs), sl__law_pairs⟩) (c__law_pairs : PySem.W.codeIn K cd__law_pairs "_law_pairs" = true) (k__law_pairs : PySem.W.keepIn K (.ref f__law_pairs) = true)
    (a__law_joins : PySem.W.nsIn K mainGlobals "_law_joins" = some (some (.ref f__law_joins))) (l__law_joins : K.lookup f__law_joins = some ⟨oc__law_joins, od__law_joins, .func (PySem.W.fnOf "_law_joins" "_law_joins" (defArgs s__law_joins) (defBody s__law_joins) (defScope s__law_joins) .none kV__law_joins dc__law_joins pm__law_joins an__law_joins cd__law_joins ct__law_joins), sl__law_joins⟩) (c__law_joins : PySem.W.codeIn K cd__law_joins "_law_joins" = true) (k__law_joins : PySem.W.keepIn K (.ref f__law_joins) = true)
    (a_law : PySem.W.nsIn K mainGlobals "law" = some (some (.ref f_law))) (l_law : K.lookup f_law = some ⟨oc_law, od_law, .func (PySem.W.fnOf "law" "law" (defArgs s_law) (defBody s_law) (defScope s_law) .none kV_law dc_law pm_law an_law cd_law ct_law), sl_law⟩) (c_law : PySem.W.codeIn K cd_law "law" = true) (k_law : PySem.W.keepIn K (.ref f_law) = true)
    {A_PolyError : Addr} (g_PolyError : PySem.W.nsIn K mainGlobals "PolyError" = some (some (.ref A_PolyError))) (x_PolyError : PySem.W.excIn K A_PolyError veT "ValueError.__new__" = true) (k_PolyError : PySem.W.keepIn K (.ref A_PolyError) = true) (b_PolyError : PySem.W.subIn K (.ref A_PolyError) (.type "BaseException") = some true) (t_PolyError : PySem.W.typeIn K (.ref A_PolyError) = some (.type "type")) (h_PolyError : PySem.W.hasDictIn K A_PolyError = true)
    (ig_PolyError : PySem.W.findIn K (.ref A_PolyError) "__getattribute__" = some (some (.builtin "BaseException.__getattribute__"))) (ik_PolyError : PySem.W.findIn K (.ref A_PolyError) "__getattr__" = some none) (ia_PolyError : PySem.W.findIn K (.ref A_PolyError) "__class__" = some (some (.builtin "object.__class__"))) (in_PolyError : PySem.W.specialIn K (.builtin "object.__class__") "__get__" = some (some (.builtin "getset_descriptor.__get__"))) (it_PolyError : PySem.W.takesIn K (.builtin "object.__class__") = some true) (im_PolyError : PySem.W.mroIn K A_PolyError (.type "object") = some true) (v_PolyError : PySem.W.subIn K (.ref A_PolyError) (.type "ValueError") = some true)
    {A_NoNumber : Addr} (g_NoNumber : PySem.W.nsIn K mainGlobals "NoNumber" = some (some (.ref A_NoNumber))) (x_NoNumber : PySem.W.excIn K A_NoNumber veT "ValueError.__new__" = true) (k_NoNumber : PySem.W.keepIn K (.ref A_NoNumber) = true) (b_NoNumber : PySem.W.subIn K (.ref A_NoNumber) (.type "BaseException") = some true) (t_NoNumber : PySem.W.typeIn K (.ref A_NoNumber) = some (.type "type")) (h_NoNumber : PySem.W.hasDictIn K A_NoNumber = true)
    (ig_NoNumber : PySem.W.findIn K (.ref A_NoNumber) "__getattribute__" = some (some (.builtin "BaseException.__getattribute__"))) (ik_NoNumber : PySem.W.findIn K (.ref A_NoNumber) "__getattr__" = some none) (ia_NoNumber : PySem.W.findIn K (.ref A_NoNumber) "__class__" = some (some (.builtin "object.__class__"))) (in_NoNumber : PySem.W.specialIn K (.builtin "object.__class__") "__get__" = some (some (.builtin "getset_descriptor.__get__"))) (it_NoNumber : PySem.W.takesIn K (.builtin "object.__class__") = some true) (im_NoNumber : PySem.W.mroIn K A_NoNumber (.type "object") = some true) (v_NoNumber : PySem.W.subIn K (.ref A_NoNumber) (.type "ValueError") = some true)
    {A_NoPower : Addr} (g_NoPower : PySem.W.nsIn K mainGlobals "NoPower" = some (some (.ref A_NoPower))) (x_NoPower : PySem.W.excIn K A_NoPower veT "ValueError.__new__" = true) (k_NoPower : PySem.W.keepIn K (.ref A_NoPower) = true) (b_NoPower : PySem.W.subIn K (.ref A_NoPower) (.type "BaseException") = some true) (t_NoPower : PySem.W.typeIn K (.ref A_NoPower) = some (.type "type")) (h_NoPower : PySem.W.hasDictIn K A_NoPower = true)
    (ig_NoPower : PySem.W.findIn K (.ref A_NoPower) "__getattribute__" = some (some (.builtin "BaseException.__getattribute__"))) (ik_NoPower : PySem.W.findIn K (.ref A_NoPower) "__getattr__" = some none) (ia_NoPower : PySem.W.findIn K (.ref A_NoPower) "__class__" = some (some (.builtin "object.__class__"))) (in_NoPower : PySem.W.specialIn K (.builtin "object.__class__") "__get__" = some (some (.builtin "getset_descriptor.__get__"))) (it_NoPower : PySem.W.takesIn K (.builtin "object.__class__") = some true) (im_NoPower : PySem.W.mroIn K A_NoPower (.type "object") = some true) (v_NoPower : PySem.W.subIn K (.ref A_NoPower) (.type "ValueError") = some true)
    {A_ByNought : Addr} (g_ByNought : PySem.W.nsIn K mainGlobals "ByNought" = some (some (.ref A_ByNought))) (x_ByNought : PySem.W.excIn K A_ByNought veT "ValueError.__new__" = true) (k_ByNought : PySem.W.keepIn K (.ref A_ByNought) = true) (b_ByNought : PySem.W.subIn K (.ref A_ByNought) (.type "BaseException") = some true) (t_ByNought : PySem.W.typeIn K (.ref A_ByNought) = some (.type "type")) (h_ByNought : PySem.W.hasDictIn K A_ByNought = true)
    (ig_ByNought : PySem.W.findIn K (.ref A_ByNought) "__getattribute__" = some (some (.builtin "BaseException.__getattribute__"))) (ik_ByNought : PySem.W.findIn K (.ref A_ByNought) "__getattr__" = some none) (ia_ByNought : PySem.W.findIn K (.ref A_ByNought) "__class__" = some (some (.builtin "object.__class__"))) (in_ByNought : PySem.W.specialIn K (.builtin "object.__class__") "__get__" = some (some (.builtin "getset_descriptor.__get__"))) (it_ByNought : PySem.W.takesIn K (.builtin "object.__class__") = some true) (im_ByNought : PySem.W.mroIn K A_ByNought (.type "object") = some true) (v_ByNought : PySem.W.subIn K (.ref A_ByNought) (.type "ValueError") = some true)
    {A_NotWhole : Addr} (g_NotWhole : PySem.W.nsIn K mainGlobals "NotWhole" = some (some (.ref A_NotWhole))) (x_NotWhole : PySem.W.excIn K A_NotWhole veT "ValueError.__new__" = true) (k_NotWhole : PySem.W.keepIn K (.ref A_NotWhole) = true) (b_NotWhole : PySem.W.subIn K (.ref A_NotWhole) (.type "BaseException") = some true) (t_NotWhole : PySem.W.typeIn K (.ref A_NotWhole) = some (.type "type")) (h_NotWhole : PySem.W.hasDictIn K A_NotWhole = true)
    (ig_NotWhole : PySem.W.findIn K (.ref A_NotWhole) "__getattribute__" = some (some (.builtin "BaseException.__getattribute__"))) (ik_NotWhole : PySem.W.findIn K (.ref A_NotWhole) "__getattr__" = some none) (ia_NotWhole : PySem.W.findIn K (.ref A_NotWhole) "__class__" = some (some (.builtin "object.__class__"))) (in_NotWhole : PySem.W.specialIn K (.builtin "object.__class__") "__get__" = some (some (.builtin "getset_descriptor.__get__"))) (it_NotWhole : PySem.W.takesIn K (.builtin "object.__class__") = some true) (im_NotWhole : PySem.W.mroIn K A_NotWhole (.type "object") = some true) (v_NotWhole : PySem.W.subIn K (.ref A_NotWhole) (.type "ValueError") = some true)
    {A_NoMeet : Addr} (g_NoMeet : PySem.W.nsIn K mainGlobals "NoMeet" = some (some (.ref A_NoMeet))) (x_NoMeet : PySem.W.excIn K A_NoMeet veT "ValueError.__new__" = true) (k_NoMeet : PySem.W.keepIn K (.ref A_NoMeet) = true) (b_NoMeet : PySem.W.subIn K (.ref A_NoMeet) (.type "BaseException") = some true) (t_NoMeet : PySem.W.typeIn K (.ref A_NoMeet) = some (.type "type")) (h_NoMeet : PySem.W.hasDictIn K A_NoMeet = true)
    (ig_NoMeet : PySem.W.findIn K (.ref A_NoMeet) "__getattribute__" = some (some (.builtin "BaseException.__getattribute__"))) (ik_NoMeet : PySem.W.findIn K (.ref A_NoMeet) "__getattr__" = some none) (ia_NoMeet : PySem.W.findIn K (.ref A_NoMeet) "__class__" = some (some (.builtin "object.__class__"))) (in_NoMeet : PySem.W.specialIn K (.builtin "object.__class__") "__get__" = some (some (.builtin "getset_descriptor.__get__"))) (it_NoMeet : PySem.W.takesIn K (.builtin "object.__class__") = some true) (im_NoMeet : PySem.W.mroIn K A_NoMeet (.type "object") = some true) (v_NoMeet : PySem.W.subIn K (.ref A_NoMeet) (.type "ValueError") = some true)
    {A_NoParts : Addr} (g_NoParts : PySem.W.nsIn K mainGlobals "NoParts" = some (some (.ref A_NoParts))) (x_NoParts : PySem.W.excIn K A_NoParts veT "ValueError.__new__" = true) (k_NoParts : PySem.W.keepIn K (.ref A_NoParts) = true) (b_NoParts : PySem.W.subIn K (.ref A_NoParts) (.type "BaseException") = some true) (t_NoParts : PySem.W.typeIn K (.ref A_NoParts) = some (.type "type")) (h_NoParts : PySem.W.hasDictIn K A_NoParts = true)
    (ig_NoParts : PySem.W.findIn K (.ref A_NoParts) "__getattribute__" = some (some (.builtin "BaseException.__getattribute__"))) (ik_NoParts : PySem.W.findIn K (.ref A_NoParts) "__getattr__" = some none) (ia_NoParts : PySem.W.findIn K (.ref A_NoParts) "__class__" = some (some (.builtin "object.__class__"))) (in_NoParts : PySem.W.specialIn K (.builtin "object.__class__") "__get__" = some (some (.builtin "getset_descriptor.__get__"))) (it_NoParts : PySem.W.takesIn K (.builtin "object.__class__") = some true) (im_NoParts : PySem.W.mroIn K A_NoParts (.type "object") = some true) (v_NoParts : PySem.W.subIn K (.ref A_NoParts) (.type "ValueError") = some true)
    (u_NoPower_PolyError : PySem.W.subIn K (.ref A_NoPower) (.ref A_PolyError) = some true)
    (u_NoPower_NoPower : PySem.W.subIn K (.ref A_NoPower) (.ref A_NoPower) = some true)
    (z_ValueError : PySem.W.nsIn K mainGlobals "ValueError" = some none)
    (z_abs : PySem.W.nsIn K mainGlobals "abs" = some none)
    (z_bool : PySem.W.nsIn K mainGlobals "bool" = some none)
    (z_int : PySem.W.nsIn K mainGlobals "int" = some none)
    (z_isinstance : PySem.W.nsIn K mainGlobals "isinstance" = some none)
    (z_len : PySem.W.nsIn K mainGlobals "len" = some none)
    (z_list : PySem.W.nsIn K mainGlobals "list" = some none)
    (z_max : PySem.W.nsIn K mainGlobals "max" = some none)
    (z_range : PySem.W.nsIn K mainGlobals "range" = some none)
    (z_tuple : PySem.W.nsIn K mainGlobals "tuple" = some none)
    (tr : l.prog.given.tree = none) :
    ∃ fd : FuncData, (∀ (s : Shared) (v : Value), BindsTo s fd ⟨[v], []⟩ [("_law_script", v)]) ∧ ∀ base : Heap, K.In base → base.Ns mainGlobals mg → base.NoSeer → FnOk l.prog w K mg base CX0 48 fa fd ["_law_script"] (sp_law K) := by
  have e := hfa.symm.trans (PySem.W.mg_of X G a_law)
  cases e
  have F_greatest := fun_mk (st := s_greatest) l_greatest c_greatest k_greatest
  have b_greatest := F_greatest.binds (ps := ["one", "other"]) fun _ _ _ _ _ _ us hl => match us, hl with | [_, _], _ => rfl
  have F_content := fun_mk (st := s_content) l_content c_content k_content
  have b_content := F_content.binds (ps := ["row"]) fun _ _ _ _ _ _ us hl => match us, hl with | [_], _ => rfl
  have F_signed_content := fun_mk (st := s_signed_content) l_signed_content c_signed_content k_signed_content
  have b_signed_content := F_signed_content.binds (ps := ["row"]) fun _ _ _ _ _ _ us hl => match us, hl with | [_], _ => rfl
  have F_simple := fun_mk (st := s_simple) l_simple c_simple k_simple
  have b_simple := F_simple.binds (ps := ["row"]) fun _ _ _ _ _ _ us hl => match us, hl with | [_], _ => rfl
  have F_trimmed := fun_mk (st := s_trimmed) l_trimmed c_trimmed k_trimmed
  have b_trimmed := F_trimmed.binds (ps := ["row"]) fun _ _ _ _ _ _ us hl => match us, hl with | [_], _ => rfl
  have F_made := fun_mk (st := s_made) l_made c_made k_made
  have b_made := F_made.binds (ps := ["numbers"]) fun _ _ _ _ _ _ us hl => match us, hl with | [_], _ => rfl
  have F_number_at := fun_mk (st := s_number_at) l_number_at c_number_at k_number_at
  have b_number_at := F_number_at.binds (ps := ["row", "place"]) fun _ _ _ _ _ _ us hl => match us, hl with | [_, _], _ => rfl
  have F_minus := fun_mk (st := s_minus) l_minus c_minus k_minus
  have b_minus := F_minus.binds (ps := ["ones", "others"]) fun _ _ _ _ _ _ us hl => match us, hl with | [_, _], _ => rfl
  have F_scaled := fun_mk (st := s_scaled) l_scaled c_scaled k_scaled
  have b_scaled := F_scaled.binds (ps := ["row", "many"]) fun _ _ _ _ _ _ us hl => match us, hl with | [_, _], _ => rfl
  have F_times := fun_mk (st := s_times) l_times c_times k_times
  have b_times := F_times.binds (ps := ["ones", "others"]) fun _ _ _ _ _ _ us hl => match us, hl with | [_, _], _ => rfl
  have F_raised := fun_mk (st := s_raised) l_raised c_raised k_raised
  have b_raised := F_raised.binds (ps := ["row", "many"]) fun _ _ _ _ _ _ us hl => match us, hl with | [_, _], _ => rfl
  have F_slope := fun_mk (st := s_slope) l_slope c_slope k_slope
  have b_slope := F_slope.binds (ps := ["row"]) fun _ _ _ _ _ _ us hl => match us, hl with | [_], _ => rfl
  have F_divided := fun_mk (st := s_divided) l_divided c_divided k_divided
  have b_divided := F_divided.binds (ps := ["row", "by"]) fun _ _ _ _ _ _ us hl => match us, hl with | [_, _], _ => rfl
  have F_quotient := fun_mk (st := s_quotient) l_quotient c_quotient k_quotient
  have b_quotient := F_quotient.binds (ps := ["row", "by"]) fun _ _ _ _ _ _ us hl => match us, hl with | [_, _], _ => rfl
  have F_shared := fun_mk (st := s_shared) l_shared c_shared k_shared
  have b_shared := F_shared.binds (ps := ["row", "ones", "others", "many"]) fun _ _ _ _ _ _ us hl => match us, hl with | [_, _, _, _], _ => rfl
  have F_begun := fun_mk (st := s_begun) l_begun c_begun k_begun
  have b_begun := F_begun.binds (ps := ["row", "first"]) fun _ _ _ _ _ _ us hl => match us, hl with | [_, _], _ => rfl
  have F_behind := fun_mk (st := s_behind) l_behind c_behind k_behind
  have b_behind := F_behind.binds (ps := ["here", "there"]) fun _ _ _ _ _ _ us hl => match us, hl with | [_, _], _ => rfl
  have F_meet := fun_mk (st := s_meet) l_meet c_meet k_meet
  have b_meet := F_meet.binds (ps := ["ones", "others"]) fun _ _ _ _ _ _ us hl => match us, hl with | [_, _], _ => rfl
  have F_parts := fun_mk (st := s_parts) l_parts c_parts k_parts
  have b_parts := F_parts.binds (ps := ["row"]) fun _ _ _ _ _ _ us hl => match us, hl with | [_], _ => rfl
  have F_joined := fun_mk (st := s_joined) l_joined c_joined k_joined
  have b_joined := F_joined.binds (ps := ["number", "pairs"]) fun _ _ _ _ _ _ us hl => match us, hl with | [_, _], _ => rfl
  have F_no_square := fun_mk (st := s_no_square) l_no_square c_no_square k_no_square
  have b_no_square := F_no_square.binds (ps := ["row"]) fun _ _ _ _ _ _ us hl => match us, hl with | [_], _ => rfl
  have F__law_whole := fun_mk (st := s__law_whole) l__law_whole c__law_whole k__law_whole
  have b__law_whole := F__law_whole.binds (ps := ["_law_found"]) fun _ _ _ _ _ _ us hl => match us, hl with | [_], _ => rfl
  have F__law_cell_at := fun_mk (st := s__law_cell_at) l__law_cell_at c__law_cell_at k__law_cell_at
  have b__law_cell_at := F__law_cell_at.binds (ps := ["_law_script", "_law_k"]) fun _ _ _ _ _ _ us hl => match us, hl with | [_, _], _ => rfl
  have F__law_trim := fun_mk (st := s__law_trim) l__law_trim c__law_trim k__law_trim
  have b__law_trim := F__law_trim.binds (ps := ["_law_row_here"]) fun _ _ _ _ _ _ us hl => match us, hl with | [_], _ => rfl
  have F__law_same := fun_mk (st := s__law_same) l__law_same c__law_same k__law_same
  have b__law_same := F__law_same.binds (ps := ["_law_found", "_law_due"]) fun _ _ _ _ _ _ us hl => match us, hl with | [_, _], _ => rfl
  have F__law_times := fun_mk (st := s__law_times) l__law_times c__law_times k__law_times
  have b__law_times := F__law_times.binds (ps := ["_law_ones", "_law_others"]) fun _ _ _ _ _ _ us hl => match us, hl with | [_, _], _ => rfl
  have F__law_greatest := fun_mk (st := s__law_greatest) l__law_greatest c__law_greatest k__law_greatest
  have b__law_greatest := F__law_greatest.binds (ps := ["_law_one", "_law_other"]) fun _ _ _ _ _ _ us hl => match us, hl with | [_, _], _ => rfl
  have F__law_plus := fun_mk (st := s__law_plus) l__law_plus c__law_plus k__law_plus
  have b__law_plus := F__law_plus.binds (ps := ["_law_ones", "_law_others"]) fun _ _ _ _ _ _ us hl => match us, hl with | [_, _], _ => rfl
  have F__law_row := fun_mk (st := s__law_row) l__law_row c__law_row k__law_row
  have b__law_row := F__law_row.binds (ps := ["_law_found"]) fun _ _ _ _ _ _ us hl => match us, hl with | [_], _ => rfl
  have F__law_paper := fun_mk (st := s__law_paper) l__law_paper c__law_paper k__law_paper
  have b__law_paper := F__law_paper.binds (ps := ["_law_found", "_law_row_here"]) fun _ _ _ _ _ _ us hl => match us, hl with | [_, _], _ => rfl
  have F__law_piece := fun_mk (st := s__law_piece) l__law_piece c__law_piece k__law_piece
  have b__law_piece := F__law_piece.binds (ps := ["_law_cell"]) fun _ _ _ _ _ _ us hl => match us, hl with | [_], _ => rfl
  have F__law_pieces := fun_mk (st := s__law_pieces) l__law_pieces c__law_pieces k__law_pieces
  have b__law_pieces := F__law_pieces.binds (ps := ["_law_script"]) fun _ _ _ _ _ _ us hl => match us, hl with | [_], _ => rfl
  have F__law_same_pairs := fun_mk (st := s__law_same_pairs) l__law_same_pairs c__law_same_pairs k__law_same_pairs
  have b__law_same_pairs := F__law_same_pairs.binds (ps := ["_law_found", "_law_due"]) fun _ _ _ _ _ _ us hl => match us, hl with | [_, _], _ => rfl
  have F__law_refused := fun_mk (st := s__law_refused) l__law_refused c__law_refused k__law_refused
  have b__law_refused := F__law_refused.binds (ps := ["_law_number_here", "_law_pairs_here", "_law_base"]) fun _ _ _ _ _ _ us hl => match us, hl with | [_, _, _], _ => rfl
  have F__law_number := fun_mk (st := s__law_number) l__law_number c__law_number k__law_number
  have b__law_number := F__law_number.binds (ps := ["_law_cell"]) fun _ _ _ _ _ _ us hl => match us, hl with | [_], _ => rfl
  have F__law_pairs := fun_mk (st := s__law_pairs) l__law_pairs c__law_pairs k__law_pairs
  have b__law_pairs := F__law_pairs.binds (ps := ["_law_script"]) fun _ _ _ _ _ _ us hl => match us, hl with | [_], _ => rfl
  have F__law_joins := fun_mk (st := s__law_joins) l__law_joins c__law_joins k__law_joins
  have b__law_joins := F__law_joins.binds (ps := ["_law_number_here", "_law_pairs_here"]) fun _ _ _ _ _ _ us hl => match us, hl with | [_, _], _ => rfl
  have F_law := fun_mk (st := s_law) l_law c_law k_law
  have b_law := F_law.binds (ps := ["_law_script"]) fun _ _ _ _ _ _ us hl => match us, hl with | [_], _ => rfl
  let T : Txt0 K mg := {
    a_greatest := _, d_greatest := _, F_greatest := F_greatest, m_greatest := PySem.W.mg_of X G a_greatest, b_greatest := b_greatest,
    a_content := _, d_content := _, F_content := F_content, m_content := PySem.W.mg_of X G a_content, b_content := b_content,
    a_signed_content := _, d_signed_content := _, F_signed_content := F_signed_content, m_signed_content := PySem.W.mg_of X G a_signed_content, b_signed_content := b_signed_content,
    a_simple := _, d_simple := _, F_simple := F_simple, m_simple := PySem.W.mg_of X G a_simple, b_simple := b_simple,
    a_trimmed := _, d_trimmed := _, F_trimmed := F_trimmed, m_trimmed := PySem.W.mg_of X G a_trimmed, b_trimmed := b_trimmed,
    a_made := _, d_made := _, F_made := F_made, m_made := PySem.W.mg_of X G a_made, b_made := b_made,
    a_number_at := _, d_number_at := _, F_number_at := F_number_at, m_number_at := PySem.W.mg_of X G a_number_at, b_number_at := b_number_at,
    a_minus := _, d_minus := _, F_minus := F_minus, m_minus := PySem.W.mg_of X G a_minus, b_minus := b_minus,
    a_scaled := _, d_scaled := _, F_scaled := F_scaled, m_scaled := PySem.W.mg_of X G a_scaled, b_scaled := b_scaled,
    a_times := _, d_times := _, F_times := F_times, m_times := PySem.W.mg_of X G a_times, b_times := b_times,
    a_raised := _, d_raised := _, F_raised := F_raised, m_raised := PySem.W.mg_of X G a_raised, b_raised := b_raised,
    a_slope := _, d_slope := _, F_slope := F_slope, m_slope := PySem.W.mg_of X G a_slope, b_slope := b_slope,
    a_divided := _, d_divided := _, F_divided := F_divided, m_divided := PySem.W.mg_of X G a_divided, b_divided := b_divided,
    a_quotient := _, d_quotient := _, F_quotient := F_quotient, m_quotient := PySem.W.mg_of X G a_quotient, b_quotient := b_quotient,
    a_shared := _, d_shared := _, F_shared := F_shared, m_shared := PySem.W.mg_of X G a_shared, b_shared := b_shared,
    a_begun := _, d_begun := _, F_begun := F_begun, m_begun := PySem.W.mg_of X G a_begun, b_begun := b_begun,
    a_behind := _, d_behind := _, F_behind := F_behind, m_behind := PySem.W.mg_of X G a_behind, b_behind := b_behind,
    a_meet := _, d_meet := _, F_meet := F_meet, m_meet := PySem.W.mg_of X G a_meet, b_meet := b_meet,
    a_parts := _, d_parts := _, F_parts := F_parts, m_parts := PySem.W.mg_of X G a_parts, b_parts := b_parts,
    a_joined := _, d_joined := _, F_joined := F_joined, m_joined := PySem.W.mg_of X G a_joined, b_joined := b_joined,
    a_no_square := _, d_no_square := _, F_no_square := F_no_square, m_no_square := PySem.W.mg_of X G a_no_square, b_no_square := b_no_square,
    a__law_whole := _, d__law_whole := _, F__law_whole := F__law_whole, m__law_whole := PySem.W.mg_of X G a__law_whole, b__law_whole := b__law_whole,
    a__law_cell_at := _, d__law_cell_at := _, F__law_cell_at := F__law_cell_at, m__law_cell_at := PySem.W.mg_of X G a__law_cell_at, b__law_cell_at := b__law_cell_at,
    a__law_trim := _, d__law_trim := _, F__law_trim := F__law_trim, m__law_trim := PySem.W.mg_of X G a__law_trim, b__law_trim := b__law_trim,
    a__law_same := _, d__law_same := _, F__law_same := F__law_same, m__law_same := PySem.W.mg_of X G a__law_same, b__law_same := b__law_same,
    a__law_times := _, d__law_times := _, F__law_times := F__law_times, m__law_times := PySem.W.mg_of X G a__law_times, b__law_times := b__law_times,
    a__law_greatest := _, d__law_greatest := _, F__law_greatest := F__law_greatest, m__law_greatest := PySem.W.mg_of X G a__law_greatest, b__law_greatest := b__law_greatest,
    a__law_plus := _, d__law_plus := _, F__law_plus := F__law_plus, m__law_plus := PySem.W.mg_of X G a__law_plus, b__law_plus := b__law_plus,
    a__law_row := _, d__law_row := _, F__law_row := F__law_row, m__law_row := PySem.W.mg_of X G a__law_row, b__law_row := b__law_row,
    a__law_paper := _, d__law_paper := _, F__law_paper := F__law_paper, m__law_paper := PySem.W.mg_of X G a__law_paper, b__law_paper := b__law_paper,
    a__law_piece := _, d__law_piece := _, F__law_piece := F__law_piece, m__law_piece := PySem.W.mg_of X G a__law_piece, b__law_piece := b__law_piece,
    a__law_pieces := _, d__law_pieces := _, F__law_pieces := F__law_pieces, m__law_pieces := PySem.W.mg_of X G a__law_pieces, b__law_pieces := b__law_pieces,
    a__law_same_pairs := _, d__law_same_pairs := _, F__law_same_pairs := F__law_same_pairs, m__law_same_pairs := PySem.W.mg_of X G a__law_same_pairs, b__law_same_pairs := b__law_same_pairs,
    a__law_refused := _, d__law_refused := _, F__law_refused := F__law_refused, m__law_refused := PySem.W.mg_of X G a__law_refused, b__law_refused := b__law_refused,
    a__law_number := _, d__law_number := _, F__law_number := F__law_number, m__law_number := PySem.W.mg_of X G a__law_number, b__law_number := b__law_number,
    a__law_pairs := _, d__law_pairs := _, F__law_pairs := F__law_pairs, m__law_pairs := PySem.W.mg_of X G a__law_pairs, b__law_pairs := b__law_pairs,
    a__law_joins := _, d__law_joins := _, F__law_joins := F__law_joins, m__law_joins := PySem.W.mg_of X G a__law_joins, b__law_joins := b__law_joins,
    a_law := _, d_law := _, F_law := F_law, m_law := PySem.W.mg_of X G a_law, b_law := b_law,
    A_PolyError := A_PolyError, e_PolyError := ⟨PySem.W.mg_of X G g_PolyError, x_PolyError, k_PolyError, b_PolyError, t_PolyError, h_PolyError, ⟨ig_PolyError, ik_PolyError, b_PolyError, h_PolyError, ia_PolyError, in_PolyError, it_PolyError, im_PolyError⟩, kit_ve v_PolyError⟩,
    A_NoNumber := A_NoNumber, e_NoNumber := ⟨PySem.W.mg_of X G g_NoNumber, x_NoNumber, k_NoNumber, b_NoNumber, t_NoNumber, h_NoNumber, ⟨ig_NoNumber, ik_NoNumber, b_NoNumber, h_NoNumber, ia_NoNumber, in_NoNumber, it_NoNumber, im_NoNumber⟩, kit_ve v_NoNumber⟩,
    A_NoPower := A_NoPower, e_NoPower := ⟨PySem.W.mg_of X G g_NoPower, x_NoPower, k_NoPower, b_NoPower, t_NoPower, h_NoPower, ⟨ig_NoPower, ik_NoPower, b_NoPower, h_NoPower, ia_NoPower, in_NoPower, it_NoPower, im_NoPower⟩, kit_ve v_NoPower⟩,
    A_ByNought := A_ByNought, e_ByNought := ⟨PySem.W.mg_of X G g_ByNought, x_ByNought, k_ByNought, b_ByNought, t_ByNought, h_ByNought, ⟨ig_ByNought, ik_ByNought, b_ByNought, h_ByNought, ia_ByNought, in_ByNought, it_ByNought, im_ByNought⟩, kit_ve v_ByNought⟩,
    A_NotWhole := A_NotWhole, e_NotWhole := ⟨PySem.W.mg_of X G g_NotWhole, x_NotWhole, k_NotWhole, b_NotWhole, t_NotWhole, h_NotWhole, ⟨ig_NotWhole, ik_NotWhole, b_NotWhole, h_NotWhole, ia_NotWhole, in_NotWhole, it_NotWhole, im_NotWhole⟩, kit_ve v_NotWhole⟩,
    A_NoMeet := A_NoMeet, e_NoMeet := ⟨PySem.W.mg_of X G g_NoMeet, x_NoMeet, k_NoMeet, b_NoMeet, t_NoMeet, h_NoMeet, ⟨ig_NoMeet, ik_NoMeet, b_NoMeet, h_NoMeet, ia_NoMeet, in_NoMeet, it_NoMeet, im_NoMeet⟩, kit_ve v_NoMeet⟩,
    A_NoParts := A_NoParts, e_NoParts := ⟨PySem.W.mg_of X G g_NoParts, x_NoParts, k_NoParts, b_NoParts, t_NoParts, h_NoParts, ⟨ig_NoParts, ik_NoParts, b_NoParts, h_NoParts, ia_NoParts, in_NoParts, it_NoParts, im_NoParts⟩, kit_ve v_NoParts⟩,
    u_NoPower_PolyError := PySem.W.exm_ref b_PolyError h_PolyError t_PolyError u_NoPower_PolyError,
    u_NoPower_NoPower := PySem.W.exm_ref b_NoPower h_NoPower t_NoPower u_NoPower_NoPower,
    z_ValueError := PySem.W.mg_none_of X G z_ValueError, z_abs := PySem.W.mg_none_of X G z_abs, z_bool := PySem.W.mg_none_of X G z_bool, z_int := PySem.W.mg_none_of X G z_int, z_isinstance := PySem.W.mg_none_of X G z_isinstance, z_len := PySem.W.mg_none_of X G z_len, z_list := PySem.W.mg_none_of X G z_list, z_max := PySem.W.mg_none_of X G z_max, z_range := PySem.W.mg_none_of X G z_range, z_tuple := PySem.W.mg_none_of X G z_tuple }
  exact ⟨_, fun s v => .of_eq rfl, fun base _ _ hS => ok_law (⟨T, hS, tr⟩ : Txt l.prog K mg base)⟩
end Pa
open PySem PySem.W PyProof.Rows
set_option maxHeartbeats 0 in
theorem PySem.Challenge.cw_polyarith_k14_parts_of_pieces_holds : PySem.Challenge.rw_polyarith_k14_parts_of_pieces.Holds := by
  w_on; o_law; k_head; (case hw => w_witness2)
  k_fill
  refine Pa.walk_ofS (l := PySem.Challenge.rw_polyarith_k14_parts_of_pieces) (n := 63) (k := 48) (x := "_law_script") (sp := fun w => Pa.sp_law _) rfl (by decide) rfl ⟨rfl, by decide, by decide⟩ (by decide +kernel) (fun w h Y => PySem.W.kIn_of Y) ?F (fun _ _ a ns hl _ hS => ⟨a, ns, rfl, hS, hl, fun _ => rfl⟩)
  case F =>
    intro w mg fa h KX G hmg
    refine' Pa.all_mk KX G hmg ?a_greatest ?l_greatest ?c_greatest ?k_greatest ?a_content ?l_content ?c_content ?k_content ?a_signed_content ?l_signed_content ?c_signed_content ?k_signed_content ?a_simple ?l_simple ?c_simple ?k_simple ?a_trimmed ?l_trimmed ?c_trimmed ?k_trimmed ?a_made ?l_made ?c_made ?k_made ?a_number_at ?l_number_at ?c_number_at ?k_number_at ?a_minus ?l_minus ?c_minus ?k_minus ?a_scaled ?l_scaled ?c_scaled ?k_scaled ?a_times ?l_times ?c_times ?k_times ?a_raised ?l_raised ?c_raised ?k_raised ?a_slope ?l_slope ?c_slope ?k_slope ?a_divided ?l_divided ?c_divided ?k_divided ?a_quotient ?l_quotient ?c_quotient ?k_quotient ?a_shared ?l_shared ?c_shared ?k_shared ?a_begun ?l_begun ?c_begun ?k_begun ?a_behind ?l_behind ?c_behind ?k_behind ?a_meet ?l_meet ?c_meet ?k_meet ?a_parts ?l_parts ?c_parts ?k_parts ?a_joined ?l_joined ?c_joined ?k_joined ?a_no_square ?l_no_square ?c_no_square ?k_no_square ?a__law_whole ?l__law_whole ?c__law_whole ?k__law_whole ?a__law_cell_at ?l__law_cell_at ?c__law_cell_at ?k__law_cell_at ?a__law_trim ?l__law_trim ?c__law_trim ?k__law_trim ?a__law_same ?l__law_same ?c__law_same ?k__law_same ?a__law_times ?l__law_times ?c__law_times ?k__law_times ?a__law_greatest ?l__law_greatest ?c__law_greatest ?k__law_greatest ?a__law_plus ?l__law_plus ?c__law_plus ?k__law_plus ?a__law_row ?l__law_row ?c__law_row ?k__law_row ?a__law_paper ?l__law_paper ?c__law_paper ?k__law_paper ?a__law_piece ?l__law_piece ?c__law_piece ?k__law_piece ?a__law_pieces ?l__law_pieces ?c__law_pieces ?k__law_pieces ?a__law_same_pairs ?l__law_same_pairs ?c__law_same_pairs ?k__law_same_pairs ?a__law_refused ?l__law_refused ?c__law_refused ?k__law_refused ?a__law_number ?l__law_number ?c__law_number ?k__law_number ?a__law_pairs ?l__law_pairs ?c__law_pairs ?k__law_pairs ?a__law_joins ?l__law_joins ?c__law_joins ?k__law_joins ?a_law ?l_law ?c_law ?k_law ?g_PolyError ?x_PolyError ?k_PolyError ?b_PolyError ?t_PolyError ?h_PolyError ?ig_PolyError ?ik_PolyError ?ia_PolyError ?in_PolyError ?it_PolyError ?im_PolyError ?v_PolyError ?g_NoNumber ?x_NoNumber ?k_NoNumber ?b_NoNumber ?t_NoNumber ?h_NoNumber ?ig_NoNumber ?ik_NoNumber ?ia_NoNumber ?in_NoNumber ?it_NoNumber ?im_NoNumber ?v_NoNumber ?g_NoPower ?x_NoPower ?k_NoPower ?b_NoPower ?t_NoPower ?h_NoPower ?ig_NoPower ?ik_NoPower ?ia_NoPower ?in_NoPower ?it_NoPower ?im_NoPower ?v_NoPower ?g_ByNought ?x_ByNought ?k_ByNought ?b_ByNought ?t_ByNought ?h_ByNought ?ig_ByNought ?ik_ByNought ?ia_ByNought ?in_ByNought ?it_ByNought ?im_ByNought ?v_ByNought ?g_NotWhole ?x_NotWhole ?k_NotWhole ?b_NotWhole ?t_NotWhole ?h_NotWhole ?ig_NotWhole ?ik_NotWhole ?ia_NotWhole ?in_NotWhole ?it_NotWhole ?im_NotWhole ?v_NotWhole ?g_NoMeet ?x_NoMeet ?k_NoMeet ?b_NoMeet ?t_NoMeet ?h_NoMeet ?ig_NoMeet ?ik_NoMeet ?ia_NoMeet ?in_NoMeet ?it_NoMeet ?im_NoMeet ?v_NoMeet ?g_NoParts ?x_NoParts ?k_NoParts ?b_NoParts ?t_NoParts ?h_NoParts ?ig_NoParts ?ik_NoParts ?ia_NoParts ?in_NoParts ?it_NoParts ?im_NoParts ?v_NoParts ?u_NoPower_PolyError ?u_NoPower_NoPower ?z_ValueError ?z_abs ?z_bool ?z_int ?z_isinstance ?z_len ?z_list ?z_max ?z_range ?z_tuple ?tr
    (case a_greatest => k_is)
    (case l_greatest => k_is)
    (case c_greatest => k_is)
    (case k_greatest => k_is)
    (case a_content => k_is)
    (case l_content => k_is)
    (case c_content => k_is)
    (case k_content => k_is)
    (case a_signed_content => k_is)
    (case l_signed_content => k_is)
    (case c_signed_content => k_is)
    (case k_signed_content => k_is)
    (case a_simple => k_is)
    (case l_simple => k_is)
    (case c_simple => k_is)
    (case k_simple => k_is)
    (case a_trimmed => k_is)
    (case l_trimmed => k_is)
    (case c_trimmed => k_is)
    (case k_trimmed => k_is)
    (case a_made => k_is)
    (case l_made => k_is)
    (case c_made => k_is)
    (case k_made => k_is)
    (case a_number_at => k_is)
    (case l_number_at => k_is)
    (case c_number_at => k_is)
    (case k_number_at => k_is)
    (case a_minus => k_is)
    (case l_minus => k_is)
    (case c_minus => k_is)
    (case k_minus => k_is)
    (case a_scaled => k_is)
    (case l_scaled => k_is)
    (case c_scaled => k_is)
    (case k_scaled => k_is)
    (case a_times => k_is)
    (case l_times => k_is)
    (case c_times => k_is)
    (case k_times => k_is)
    (case a_raised => k_is)
    (case l_raised => k_is)
    (case c_raised => k_is)
    (case k_raised => k_is)
    (case a_slope => k_is)
    (case l_slope => k_is)
    (case c_slope => k_is)
    (case k_slope => k_is)
    (case a_divided => k_is)
    (case l_divided => k_is)
    (case c_divided => k_is)
    (case k_divided => k_is)
    (case a_quotient => k_is)
    (case l_quotient => k_is)
    (case c_quotient => k_is)
    (case k_quotient => k_is)
    (case a_shared => k_is)
    (case l_shared => k_is)
    (case c_shared => k_is)
    (case k_shared => k_is)
    (case a_begun => k_is)
    (case l_begun => k_is)
    (case c_begun => k_is)
    (case k_begun => k_is)
    (case a_behind => k_is)
    (case l_behind => k_is)
    (case c_behind => k_is)
    (case k_behind => k_is)
    (case a_meet => k_is)
    (case l_meet => k_is)
    (case c_meet => k_is)
    (case k_meet => k_is)
    (case a_parts => k_is)
    (case l_parts => k_is)
    (case c_parts => k_is)
    (case k_parts => k_is)
    (case a_joined => k_is)
    (case l_joined => k_is)
    (case c_joined => k_is)
    (case k_joined => k_is)
    (case a_no_square => k_is)
    (case l_no_square => k_is)
    (case c_no_square => k_is)
    (case k_no_square => k_is)
    (case a__law_whole => k_is)
    (case l__law_whole => k_is)
    (case c__law_whole => k_is)
    (case k__law_whole => k_is)
    (case a__law_cell_at => k_is)
    (case l__law_cell_at => k_is)
    (case c__law_cell_at => k_is)
    (case k__law_cell_at => k_is)
    (case a__law_trim => k_is)
    (case l__law_trim => k_is)
    (case c__law_trim => k_is)
    (case k__law_trim => k_is)
    (case a__law_same => k_is)
    (case l__law_same => k_is)
    (case c__law_same => k_is)
    (case k__law_same => k_is)
    (case a__law_times => k_is)
    (case l__law_times => k_is)
    (case c__law_times => k_is)
    (case k__law_times => k_is)
    (case a__law_greatest => k_is)
    (case l__law_greatest => k_is)
    (case c__law_greatest => k_is)
    (case k__law_greatest => k_is)
    (case a__law_plus => k_is)
    (case l__law_plus => k_is)
    (case c__law_plus => k_is)
    (case k__law_plus => k_is)
    (case a__law_row => k_is)
    (case l__law_row => k_is)
    (case c__law_row => k_is)
    (case k__law_row => k_is)
    (case a__law_paper => k_is)
    (case l__law_paper => k_is)
    (case c__law_paper => k_is)
    (case k__law_paper => k_is)
    (case a__law_piece => k_is)
    (case l__law_piece => k_is)
    (case c__law_piece => k_is)
    (case k__law_piece => k_is)
    (case a__law_pieces => k_is)
    (case l__law_pieces => k_is)
    (case c__law_pieces => k_is)
    (case k__law_pieces => k_is)
    (case a__law_same_pairs => k_is)
    (case l__law_same_pairs => k_is)
    (case c__law_same_pairs => k_is)
    (case k__law_same_pairs => k_is)
    (case a__law_refused => k_is)
    (case l__law_refused => k_is)
    (case c__law_refused => k_is)
    (case k__law_refused => k_is)
    (case a__law_number => k_is)
    (case l__law_number => k_is)
    (case c__law_number => k_is)
    (case k__law_number => k_is)
    (case a__law_pairs => k_is)
    (case l__law_pairs => k_is)
    (case c__law_pairs => k_is)
    (case k__law_pairs => k_is)
    (case a__law_joins => k_is)
    (case l__law_joins => k_is)
    (case c__law_joins => k_is)
    (case k__law_joins => k_is)
    (case a_law => k_is)
    (case l_law => k_is)
    (case c_law => k_is)
    (case k_law => k_is)
    (case g_PolyError => k_is)
    (case x_PolyError => k_exc)
    (case k_PolyError => k_is)
    (case b_PolyError => k_is)
    (case t_PolyError => k_is)
    (case h_PolyError => k_is)
    (case ig_PolyError => k_is)
    (case ik_PolyError => k_is)
    (case ia_PolyError => k_is)
    (case in_PolyError => k_is)
    (case it_PolyError => k_is)
    (case im_PolyError => k_is)
    (case v_PolyError => k_is)
    (case g_NoNumber => k_is)
    (case x_NoNumber => k_exc)
    (case k_NoNumber => k_is)
    (case b_NoNumber => k_is)
    (case t_NoNumber => k_is)
    (case h_NoNumber => k_is)
    (case ig_NoNumber => k_is)
    (case ik_NoNumber => k_is)
    (case ia_NoNumber => k_is)
    (case in_NoNumber => k_is)
    (case it_NoNumber => k_is)
    (case im_NoNumber => k_is)
    (case v_NoNumber => k_is)
    (case g_NoPower => k_is)
    (case x_NoPower => k_exc)
    (case k_NoPower => k_is)
    (case b_NoPower => k_is)
    (case t_NoPower => k_is)
    (case h_NoPower => k_is)
    (case ig_NoPower => k_is)
    (case ik_NoPower => k_is)
    (case ia_NoPower => k_is)
    (case in_NoPower => k_is)
    (case it_NoPower => k_is)
    (case im_NoPower => k_is)
    (case v_NoPower => k_is)
    (case g_ByNought => k_is)
    (case x_ByNought => k_exc)
    (case k_ByNought => k_is)
    (case b_ByNought => k_is)
    (case t_ByNought => k_is)
    (case h_ByNought => k_is)
    (case ig_ByNought => k_is)
    (case ik_ByNought => k_is)
    (case ia_ByNought => k_is)
    (case in_ByNought => k_is)
    (case it_ByNought => k_is)
    (case im_ByNought => k_is)
    (case v_ByNought => k_is)
    (case g_NotWhole => k_is)
    (case x_NotWhole => k_exc)
    (case k_NotWhole => k_is)
    (case b_NotWhole => k_is)
    (case t_NotWhole => k_is)
    (case h_NotWhole => k_is)
    (case ig_NotWhole => k_is)
    (case ik_NotWhole => k_is)
    (case ia_NotWhole => k_is)
    (case in_NotWhole => k_is)
    (case it_NotWhole => k_is)
    (case im_NotWhole => k_is)
    (case v_NotWhole => k_is)
    (case g_NoMeet => k_is)
    (case x_NoMeet => k_exc)
    (case k_NoMeet => k_is)
    (case b_NoMeet => k_is)
    (case t_NoMeet => k_is)
    (case h_NoMeet => k_is)
    (case ig_NoMeet => k_is)
    (case ik_NoMeet => k_is)
    (case ia_NoMeet => k_is)
    (case in_NoMeet => k_is)
    (case it_NoMeet => k_is)
    (case im_NoMeet => k_is)
    (case v_NoMeet => k_is)
    (case g_NoParts => k_is)
    (case x_NoParts => k_exc)
    (case k_NoParts => k_is)
    (case b_NoParts => k_is)
    (case t_NoParts => k_is)
    (case h_NoParts => k_is)
    (case ig_NoParts => k_is)
    (case ik_NoParts => k_is)
    (case ia_NoParts => k_is)
    (case in_NoParts => k_is)
    (case it_NoParts => k_is)
    (case im_NoParts => k_is)
    (case v_NoParts => k_is)
    (case u_NoPower_PolyError => first | rfl | k_is)
    (case u_NoPower_NoPower => first | rfl | k_is)
    (case z_ValueError => k_is)
    (case z_abs => k_is)
    (case z_bool => k_is)
    (case z_int => k_is)
    (case z_isinstance => k_is)
    (case z_len => k_is)
    (case z_list => k_is)
    (case z_max => k_is)
    (case z_range => k_is)
    (case z_tuple => k_is)
    (case tr => rfl)
