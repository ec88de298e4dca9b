import PyProof.Rows.All
import Wide.All
import OpenK.AllK
import Wide.FinOn
import HandS.ForMost
import HandS.Exc
import HandS.TryOnly
import HandS.ExcOwn
import HandS.WordsExc
import HandS.TryMany
import HandS.Wide
import HandS.Rev
import HandS.IsInst
import HandS.ExcIs
import HandS.Deep
import PySem.Challenge.RW_polyarith_k08_quotient
set_option Elab.async false
set_option linter.all false
set_option maxRecDepth 100000
set_option maxHeartbeats 4000000
set_option exponentiation.threshold 10000
namespace Pa
open PySem PySem.Spec PyProof.Rows L2
abbrev St := L2.St

/-! ### owned objects over a heap -/
abbrev Fs := List (Addr × HO)
def Kn (H0 : Hp) : Fs → Hp → Prop
  | [], H => Same H0 H
  | x :: fs, H => H x.1 = some x.2 ∧ ∃ H1, Same H1 H ∧ H1 x.1 = none ∧ Kn H0 fs H1
theorem Kn.same {H0 : Hp} : ∀ {fs : Fs} {H : Hp}, Kn H0 fs H → Same H0 H
  | [], _, h => h
  | _ :: _, _, ⟨_, _, s, _, k⟩ => (Kn.same k).trans s
theorem Kn.ext {H0 : Hp} : ∀ {fs : Fs} {H H' : Hp}, Kn H0 fs H → Same H H' → Kn H0 fs H'
  | [], _, _, h, s => Same.trans h s
  | _ :: _, _, _, ⟨e, H1, s1, n, k⟩, s => ⟨s _ _ e, H1, s1.trans s, n, k⟩
theorem same_upd {H : Hp} {p : Addr} {o : HO} (h : H p = none) : Same H (upd H p o) := fun b x e => by
  rw [upd_ne (ne_of_none e h)]
  exact e
theorem Kn.new {H0 H : Hp} {fs : Fs} {p : Addr} {o : HO} (k : Kn H0 fs H) (h : H p = none) : Kn H0 ((p, o) :: fs) (upd H p o) :=
  ⟨upd_same, H, same_upd h, h, k⟩
theorem Kn.get {H0 : Hp} : ∀ {fs : Fs} {H : Hp} {p : Addr} {o : HO}, Kn H0 fs H → (p, o) ∈ fs → H p = some o
  | _ :: _, _, _, _, ⟨e, _⟩, .head _ => e
  | _ :: _, _, _, _, ⟨_, _, s, _, k⟩, .tail _ m => s _ _ (Kn.get k m)
theorem Kn.fresh {H0 H : Hp} {fs : Fs} {p : Addr} (k : Kn H0 fs H) (h : H p = none) : H0 p = none := k.same.free h
theorem Kn.out {H0 : Hp} : ∀ {fs : Fs} {H : Hp} {p : Addr} {o : HO}, Kn H0 fs H → (p, o) ∈ fs → H0 p = none
  | _ :: _, _, _, _, ⟨_, _, _, n, k⟩, .head _ => k.same.free n
  | _ :: _, _, _, _, ⟨_, _, _, _, k⟩, .tail _ m => Kn.out k m
theorem Kn.put {H0 : Hp} : ∀ {fs : Fs} {H : Hp} {i : Nat} {p : Addr} {o o' : HO}, Kn H0 fs H → fs[i]? = some (p, o) → Kn H0 (fs.set i (p, o')) (upd H p o')
  | [], _, _, _, _, _, _, h => by simp at h
  | x :: fs, H, 0, p, o, o', ⟨e, H1, s, n, k⟩, h => by
    have ex : x = (p, o) := Option.some.inj h
    subst ex
    exact ⟨upd_same, H1, fun b u q => by rw [upd_ne (ne_of_none q n)]; exact s _ _ q, n, k⟩
  | x :: fs, H, i + 1, p, o, o', ⟨e, H1, s, n, k⟩, h => by
    have h' : fs[i]? = some (p, o) := by simpa using h
    have hp : H1 p = some o := k.get (List.mem_of_getElem? h')
    have ne : x.1 ≠ p := fun z => by rw [z, hp] at n; cases n
    refine ⟨by rw [upd_ne ne]; exact e, upd H1 p o', fun b u q => ?_, by rw [upd_ne ne]; exact n, Kn.put k h'⟩
    by_cases hb : b = p
    · subst hb; rw [upd_same] at q ⊢; exact q
    · rw [upd_ne hb] at q ⊢; exact s _ _ q
theorem Kn.app {H0 H : Hp} {fs : Fs} (k : Kn H0 fs H) : ∀ {fs' : Fs} {H' : Hp}, Kn H fs' H' → Kn H0 (fs' ++ fs) H'
  | [], _, k' => k.ext k'
  | _ :: _, _, ⟨e, H1, s, n, k'⟩ => ⟨e, H1, s, n, Kn.app k k'⟩
theorem Kn.drop {H0 H : Hp} {x : Addr × HO} {fs : Fs} (k : Kn H0 (x :: fs) H) : Kn H0 fs H := by
  obtain ⟨_, H1, s, _, k⟩ := k
  exact k.ext s
theorem Kn.sub {H0 : Hp} : ∀ {fs fs' : Fs} {H : Hp}, List.Sublist fs' fs → Kn H0 fs H → Kn H0 fs' H
  | _, _, _, .slnil, k => k
  | _, _, _, .cons _ s, k => Kn.sub s k.drop
  | _, _, _, .cons_cons _ s, ⟨e, H1, t, n, k⟩ => ⟨e, H1, t, n, Kn.sub s k⟩
/-- seen from a later heap -/
theorem Kn.ne {H0 : Hp} {x : Addr × HO} {fs : Fs} {H : Hp} {p : Addr} {o : HO} (k : Kn H0 (x :: fs) H) (m : (p, o) ∈ fs) : x.1 ≠ p := by
  obtain ⟨_, H1, _, n, k⟩ := k
  intro e
  rw [e, k.get m] at n
  cases n
theorem Kn.swap {H0 : Hp} {x y : Addr × HO} {fs : Fs} {H : Hp} (k : Kn H0 (x :: y :: fs) H) : Kn H0 (y :: x :: fs) H := by
  obtain ⟨ex, H1, s1, n1, ey, H2, s2, n2, k⟩ := k
  have ne : x.1 ≠ y.1 := fun z => by rw [z, ey] at n1; cases n1
  have hx2 : H2 x.1 = none := s2.free n1
  refine ⟨s1 _ _ ey, upd H2 x.1 x.2, fun b u q => ?_, ?_, upd_same, H2, same_upd hx2, hx2, k⟩
  · by_cases hb : b = x.1
    · subst hb; rw [upd_same] at q; cases q; exact ex
    · rw [upd_ne hb] at q; exact s1 _ _ (s2 _ _ q)
  · rw [upd_ne (Ne.symm ne)]; exact n2

/-! ### what may be read -/
def Rl (K : PySem.W.Frag) (H0 : Hp) (fs : Fs) (a : Addr) (xs : List V) : Prop := ∀ H, Kn H0 fs H → SqL K H a xs
def Rt (K : PySem.W.Frag) (H0 : Hp) (fs : Fs) (a : Addr) (xs : List V) : Prop := ∀ H, Kn H0 fs H → SqT K H a xs
/-- an exact object -/
def Rx (H0 : Hp) (fs : Fs) (a : Addr) (o : HO) : Prop := ∀ H, Kn H0 fs H → H a = some o
section
variable {K : PySem.W.Frag} {H0 : Hp} {fs fs' : Fs} {a : Addr} {xs : List V} {o : HO}
theorem Rx.own (m : (a, o) ∈ fs) : Rx H0 fs a o := fun _ k => k.get m
theorem Rx.arg (h : H0 a = some o) : Rx H0 fs a o := fun _ k => k.same _ _ h
theorem Rl.x (h : Rx H0 fs a (.lst xs)) : Rl K H0 fs a xs := fun H k => SqL.of (h H k)
theorem Rl.sq (h : SqL K H0 a xs) : Rl K H0 fs a xs := fun _ k => k.same.seq h
theorem Rt.x (h : Rx H0 fs a (.tup xs)) : Rt K H0 fs a xs := fun H k => SqT.of (h H k)
end

/-! ### zV -/
def zV (ns : List Int) : List V := ns.map V.int
theorem zV_length (ns : List Int) : (zV ns).length = ns.length := List.length_map _
theorem zV_get {ns : List Int} {i : Nat} {x : Int} (h : ns[i]? = some x) : (zV ns)[i]? = some (.int x) := by
  unfold zV
  rw [List.getElem?_map, h]; rfl
/-- the number at a place -/
def gat (ns : List Int) (i : Int) : Int := ns.getD i.toNat 0
theorem gat_nat (ns : List Int) (i : Nat) : gat ns (i : Int) = ns.getD i 0 := by unfold gat; simp
theorem atI_zV {ns : List Int} {i : Int} (h0 : 0 ≤ i) (h1 : i < (ns.length : Int)) : atI (zV ns) i = some (.int (gat ns i)) := by
  obtain ⟨k, rfl⟩ := Int.eq_ofNat_of_zero_le h0
  have hk : k < ns.length := by omega
  refine atI_nat (zV_get ?_)
  rw [gat_nat, List.getD_eq_getElem?_getD, List.getElem?_eq_getElem hk]; rfl
theorem ixN_nat {n j : Nat} (hj : j < n) : ixN n (j : Int) = some j := by
  unfold ixN
  rw [if_pos (by omega), if_pos (by omega)]
  simp
theorem ixN_int {n : Nat} {i : Int} (h0 : 0 ≤ i) (h1 : i < (n : Int)) : ixN n i = some i.toNat := by
  unfold ixN
  rw [if_pos h0, if_pos h1]
theorem zV_set (ns : List Int) (i : Nat) (x : Int) : (zV ns).set i (.int x) = zV (ns.set i x) := by
  unfold zV; rw [List.map_set]
theorem zV_app (ns ms : List Int) : zV ns ++ zV ms = zV (ns ++ ms) := by
  unfold zV; rw [List.map_append]
theorem atI_lastI {ns : List Int} (h : ns ≠ []) : atI (zV ns) (-1) = some (.int (ns.getLast h)) := by
  have e : zV ns = zV ns.dropLast ++ [.int (ns.getLast h)] := by
    have := zV_app ns.dropLast [ns.getLast h]
    rw [List.dropLast_concat_getLast] at this
    exact this.symm
  rw [e]; exact atI_last _ _
theorem sz_le {n : Nat} (h : n ≤ 1000000) : n ≤ sizeLine := Nat.le_trans h (by decide)
theorem sz_lt {n : Nat} (h : n < 1000000) : n < sizeLine := Nat.lt_of_lt_of_le h (by decide)
end Pa

namespace Pa
open PySem PySem.Spec PyProof.Rows L2

/-! ### readings over owned objects -/
abbrev CV := V → Fs → Prop
def W (te : TE) (σ : St) (H0 : Hp) (fs : Fs) (Φ : CV) : Prop := ∀ H, Kn H0 fs H → ∀ Q : VK, (∀ v fs' H', Kn H0 fs' H' → Φ v fs' → Q v H') → te σ H Q
def WT (tt : TT) (σ : St) (H0 : Hp) (fs : Fs) (Φ : Bool → Fs → Prop) : Prop := ∀ H, Kn H0 fs H → ∀ Q : Bool → Hp → Prop, (∀ v fs' H', Kn H0 fs' H' → Φ v fs' → Q v H') → tt σ H Q
def WA (ta : TA) (σ : St) (H0 : Hp) (fs : Fs) (Φ : List V → Fs → Prop) : Prop := ∀ H, Kn H0 fs H → ∀ Q : List V → Hp → Prop, (∀ v fs' H', Kn H0 fs' H' → Φ v fs' → Q v H') → ta σ H Q
def WO (tn : TO) (σ : St) (H0 : Hp) (fs : Fs) (Φ : Option Int → Fs → Prop) : Prop := ∀ H, Kn H0 fs H → ∀ Q : Option Int → Hp → Prop, (∀ v fs' H', Kn H0 fs' H' → Φ v fs' → Q v H') → tn σ H Q
/-- an operation on two values, a call on values -/
def RW (r : R2) (x y : V) (H0 : Hp) (fs : Fs) (Φ : CV) : Prop := ∀ H, Kn H0 fs H → ∀ Q : VK, (∀ v fs' H', Kn H0 fs' H' → Φ v fs' → Q v H') → r x y H Q
def RU (r : V → Hp → VK → Prop) (x : V) (H0 : Hp) (fs : Fs) (Φ : CV) : Prop := ∀ H, Kn H0 fs H → ∀ Q : VK, (∀ v fs' H', Kn H0 fs' H' → Φ v fs' → Q v H') → r x H Q
def RC (r : List V → Hp → VK → Prop) (vs : List V) (H0 : Hp) (fs : Fs) (Φ : CV) : Prop := ∀ H, Kn H0 fs H → ∀ Q : VK, (∀ v fs' H', Kn H0 fs' H' → Φ v fs' → Q v H') → r vs H Q
def RM (r : V → List V → Hp → VK → Prop) (x : V) (vs : List V) (H0 : Hp) (fs : Fs) (Φ : CV) : Prop := ∀ H, Kn H0 fs H → ∀ Q : VK, (∀ v fs' H', Kn H0 fs' H' → Φ v fs' → Q v H') → r x vs H Q
def RS (r : V → Option Int → Option Int → Hp → VK → Prop) (x : V) (lo hi : Option Int) (H0 : Hp) (fs : Fs) (Φ : CV) : Prop := ∀ H, Kn H0 fs H → ∀ Q : VK, (∀ v fs' H', Kn H0 fs' H' → Φ v fs' → Q v H') → r x lo hi H Q
/-- a call's promise -/
def WC (sp : Sp) (vs : List V) (H0 : Hp) (fs : Fs) (Φ : CV) : Prop := ∀ H, Kn H0 fs H → ∀ (Q : VK) (E : XK), (∀ v fs' H', Kn H0 fs' H' → Φ v fs' → Q v H') → sp vs H Q E
/-- statements: what must hold behind -/
def N (e : St → Hp → Prop) (σ : St) (H0 : Hp) (fs : Fs) : Prop := ∀ H, Kn H0 fs H → e σ H
/-- a value handed back -/
def NR (Q : VK) (v : V) (H0 : Hp) (fs : Fs) : Prop := ∀ H, Kn H0 fs H → Q v H

section
variable {σ : St} {H0 : Hp} {fs : Fs} {Φ : CV} {ta tb tc te : TE} {t u : TT} {i : Nat} {v x y : V} {r r' : R2} {K : PySem.W.Frag} {tr : TA} {ΦT : Bool → Fs → Prop} {ΦA : List V → Fs → Prop}

theorem W.var (h : σ[i]? = some (some v)) (q : Φ v fs) : W (tVar i) σ H0 fs Φ := fun H k _ c => ⟨v, h, c v fs H k q⟩
theorem W.c (q : Φ v fs) : W (tC v) σ H0 fs Φ := fun H k _ c => c v fs H k q
theorem W.op (h : W ta σ H0 fs fun x f1 => W tb σ H0 f1 fun y f2 => RW r x y H0 f2 Φ) : W (tOp r ta tb) σ H0 fs Φ := fun H k Q c =>
  h H k _ fun _ _ H1 k1 h1 => h1 H1 k1 _ fun _ _ H2 k2 h2 => h2 H2 k2 Q c
theorem W.un {r : V → Hp → VK → Prop} (h : W ta σ H0 fs fun x f1 => RU r x H0 f1 Φ) : W (tUn r ta) σ H0 fs Φ := fun H k Q c =>
  h H k _ fun _ _ H1 k1 h1 => h1 H1 k1 Q c
theorem RW.i0 {g : Int → Int → V} {i j : Int} (q : Φ (g i j) fs) : RW (rI0 g) (.int i) (.int j) H0 fs Φ := fun H k _ c => ⟨i, j, rfl, rfl, c _ fs H k q⟩
theorem RW.i1 {C : Int → Int → Prop} {g : Int → Int → V} {i j : Int} (hc : C i j) (q : Φ (g i j) fs) : RW (rI C g) (.int i) (.int j) H0 fs Φ := fun H k _ c => ⟨i, j, rfl, rfl, hc, c _ fs H k q⟩
theorem RU.int {g : Int → V} {i : Int} (q : Φ (g i) fs) : RU (rU g) (.int i) H0 fs Φ := fun H k _ c => ⟨i, rfl, c _ fs H k q⟩
theorem RW.eqI {i j : Int} (q : Φ (.bl (decide (i = j))) fs) : RW rEq (.int i) (.int j) H0 fs Φ := fun H k Q c => ⟨rfl, by
  have e : decide (V.int i = V.int j) = decide (i = j) := by rw [dec_int, Bool.beq_eq_decide_eq]
  rw [e]; exact c _ fs H k q⟩
theorem RW.neI {i j : Int} (q : Φ (.bl (!decide (i = j))) fs) : RW rNe (.int i) (.int j) H0 fs Φ := fun H k Q c => ⟨rfl, by
  have e : decide (V.int i = V.int j) = decide (i = j) := by rw [dec_int, Bool.beq_eq_decide_eq]
  rw [e]; exact c _ fs H k q⟩
theorem RW.eqS {i j : Str} (q : Φ (.bl (decide (i = j))) fs) : RW rEq (.str i) (.str j) H0 fs Φ := fun H k Q c => ⟨rfl, by
  have e : decide (V.str i = V.str j) = decide (i = j) := by rw [dec_str, Bool.beq_eq_decide_eq]
  rw [e]; exact c _ fs H k q⟩
theorem RW.neS {i j : Str} (q : Φ (.bl (!decide (i = j))) fs) : RW rNe (.str i) (.str j) H0 fs Φ := fun H k Q c => ⟨rfl, by
  have e : decide (V.str i = V.str j) = decide (i = j) := by rw [dec_str, Bool.beq_eq_decide_eq]
  rw [e]; exact c _ fs H k q⟩

/-! ### arguments, displays -/
theorem WA.nil (q : ΦA [] fs) : WA tNil σ H0 fs ΦA := fun H k _ c => c [] fs H k q
theorem WA.cons (h : W ta σ H0 fs fun x f1 => WA tr σ H0 f1 fun xs f2 => ΦA (x :: xs) f2) : WA (tCons ta tr) σ H0 fs ΦA := fun H k Q c =>
  h H k _ fun _ _ H1 k1 h1 => h1 H1 k1 _ fun _ _ H2 k2 h2 => c _ _ H2 k2 h2
theorem W.lst (h : WA tr σ H0 fs fun vs f1 => vs.length ≤ 1000000 ∧ ∀ p, Φ (.ref p) ((p, .lst vs) :: f1)) : W (tLst tr) σ H0 fs Φ := fun H k Q c =>
  h H k _ fun _ _ H1 k1 h1 => ⟨sz_le h1.1, fun p hp => c _ _ _ (k1.new hp) (h1.2 p)⟩
theorem W.tup (h : WA tr σ H0 fs fun vs f1 => vs.length ≤ 1000000 ∧ ∀ p, Φ (.ref p) ((p, .tup vs) :: f1)) : W (tTup tr) σ H0 fs Φ := fun H k Q c =>
  h H k _ fun _ _ H1 k1 h1 => ⟨sz_le h1.1, fun p hp => c _ _ _ (k1.new hp) (h1.2 p)⟩
theorem W.cb {r : List V → Hp → VK → Prop} (h : WA tr σ H0 fs fun vs f1 => RC r vs H0 f1 Φ) : W (tCB r tr) σ H0 fs Φ := fun H k Q c =>
  h H k _ fun _ _ H1 k1 h1 => h1 H1 k1 Q c
theorem W.call {sp : Sp} {E : XK} (h : WA tr σ H0 fs fun vs f1 => WC sp vs H0 f1 Φ) : W (tCall sp [] E tr) σ H0 fs Φ := fun H k Q c =>
  h H k _ fun vs _ H1 k1 h1 => by rw [List.append_nil]; exact h1 H1 k1 Q E c

/-! ### built-ins -/
def rLen (K : PySem.W.Frag) : List V → Hp → VK → Prop := fun xs H Q => ∃ p ys, xs = [.ref p] ∧ (SqL K H p ys ∨ SqT K H p ys) ∧ Q (.int ys.length) H
def rLenS : List V → Hp → VK → Prop := fun xs H Q => ∃ z, xs = [.str z] ∧ z.length ≤ sizeLine ∧ Q (.int z.length) H
def rAbs : List V → Hp → VK → Prop := fun xs H Q => ∃ i, xs = [.int i] ∧ Q (.int (if i < 0 then -i else i)) H
def rMax2 : List V → Hp → VK → Prop := fun xs H Q => ∃ i j, xs = [.int i, .int j] ∧ Q (.int (if j > i then j else i)) H
def rMin2 : List V → Hp → VK → Prop := fun xs H Q => ∃ i j, xs = [.int i, .int j] ∧ Q (.int (if j < i then j else i)) H
def rListOf (K : PySem.W.Frag) : List V → Hp → VK → Prop := fun xs H Q => ∃ p ys, xs = [.ref p] ∧ (SqL K H p ys ∨ SqT K H p ys) ∧ ∀ l, H l = none → Q (.ref l) (upd H l (.lst ys))
def rTupOf (K : PySem.W.Frag) : List V → Hp → VK → Prop := fun xs H Q => ∃ p ys, xs = [.ref p] ∧ ((SqL K H p ys ∧ ∀ l, H l = none → Q (.ref l) (upd H l (.tup ys))) ∨ (SqT K H p ys ∧ Q (.ref p) H))
section
variable {X : Cx}
theorem cLen : CallR X (.builtin "len") (rLen X.K) := call_len_seq
theorem cLenS : CallR X (.builtin "len") rLenS := call_len_str
theorem cAbs : CallR X (.builtin "abs") rAbs := call_abs
theorem cMax2 (hc : X.calm = true) : CallR X (.builtin "max") rMax2 := call_max2 hc
theorem cMin2 (hc : X.calm = true) : CallR X (.builtin "min") rMin2 := call_min2 hc
theorem cListOf : CallR X (.type "list") (rListOf X.K) := call_list_of
theorem cTupOf : CallR X (.type "tuple") (rTupOf X.K) := call_tuple_of
end
theorem RC.len {p : Addr} {xs : List V} (h : Rl K H0 fs p xs) (q : Φ (.int xs.length) fs) : RC (rLen K) [.ref p] H0 fs Φ := fun H k _ c => ⟨p, xs, rfl, .inl (h H k), c _ fs H k q⟩
theorem RC.lenT {p : Addr} {xs : List V} (h : Rt K H0 fs p xs) (q : Φ (.int xs.length) fs) : RC (rLen K) [.ref p] H0 fs Φ := fun H k _ c => ⟨p, xs, rfl, .inr (h H k), c _ fs H k q⟩
theorem RC.lenZ {p : Addr} {ns : List Int} (h : Rl K H0 fs p (zV ns)) (q : Φ (.int ns.length) fs) : RC (rLen K) [.ref p] H0 fs Φ := RC.len h (by rw [zV_length]; exact q)
theorem RC.lenS {z : Str} (h : z.length ≤ 1000000) (q : Φ (.int z.length) fs) : RC rLenS [.str z] H0 fs Φ := fun H k _ c => ⟨z, rfl, sz_le h, c _ fs H k q⟩
theorem RC.abs {i : Int} (q : Φ (.int (i.natAbs : Int)) fs) : RC rAbs [.int i] H0 fs Φ := fun H k _ c => ⟨i, rfl, by
  have e : (if i < 0 then -i else i) = (i.natAbs : Int) := by split <;> omega
  rw [e]; exact c _ fs H k q⟩
theorem RC.max2 {i j : Int} (q : Φ (.int (max i j)) fs) : RC rMax2 [.int i, .int j] H0 fs Φ := fun H k _ c => ⟨i, j, rfl, by
  have e : (if j > i then j else i) = max i j := by split <;> omega
  rw [e]; exact c _ fs H k q⟩
theorem RC.min2 {i j : Int} (q : Φ (.int (min i j)) fs) : RC rMin2 [.int i, .int j] H0 fs Φ := fun H k _ c => ⟨i, j, rfl, by
  have e : (if j < i then j else i) = min i j := by split <;> omega
  rw [e]; exact c _ fs H k q⟩
theorem RC.listL {p : Addr} {xs : List V} (h : Rl K H0 fs p xs) (q : ∀ l, Φ (.ref l) ((l, .lst xs) :: fs)) : RC (rListOf K) [.ref p] H0 fs Φ := fun H k _ c => ⟨p, xs, rfl, .inl (h H k), fun l hl => c _ _ _ (k.new hl) (q l)⟩
theorem RC.listT {p : Addr} {xs : List V} (h : Rt K H0 fs p xs) (q : ∀ l, Φ (.ref l) ((l, .lst xs) :: fs)) : RC (rListOf K) [.ref p] H0 fs Φ := fun H k _ c => ⟨p, xs, rfl, .inr (h H k), fun l hl => c _ _ _ (k.new hl) (q l)⟩
theorem RC.tupL {p : Addr} {xs : List V} (h : Rl K H0 fs p xs) (q : ∀ l, Φ (.ref l) ((l, .tup xs) :: fs)) : RC (rTupOf K) [.ref p] H0 fs Φ := fun H k _ c => ⟨p, xs, rfl, .inl ⟨h H k, fun l hl => c _ _ _ (k.new hl) (q l)⟩⟩
/-- isinstance -/
theorem RC.isi {x : V} {n : String} {t : Value} {b : Bool} (ht : ∀ H, Kn H0 fs H → TyX K H x t) (hk : PySem.W.kitOne K t (.type n) = some b) (q : Φ (.bl b) fs) : RC (rIsi K) [x, .ty n] H0 fs Φ := fun H k _ c =>
  ⟨x, .ty n, t, .type n, b, rfl, .ty n, ht H k, hk, c _ fs H k q⟩

/-! ### items, slices -/
theorem RW.ixZ {p : Addr} {ns : List Int} {i : Int} (h : Rl K H0 fs p (zV ns)) (hi : 0 ≤ i ∧ i < (ns.length : Int)) (q : Φ (.int (gat ns i)) fs) : RW (rIxL K) (.ref p) (.int i) H0 fs Φ := fun H k _ c =>
  ⟨p, _, i, _, rfl, rfl, h H k, atI_zV hi.1 hi.2, c _ fs H k q⟩
theorem RW.ixL {p : Addr} {xs : List V} {i : Int} (h : Rl K H0 fs p xs) (hi : atI xs i = some v) (q : Φ v fs) : RW (rIxL K) (.ref p) (.int i) H0 fs Φ := fun H k _ c =>
  ⟨p, _, i, _, rfl, rfl, h H k, hi, c _ fs H k q⟩
theorem RW.ixT {p : Addr} {xs : List V} {i : Int} (h : Rt K H0 fs p xs) (hi : atI xs i = some v) (q : Φ v fs) : RW (rIxT K) (.ref p) (.int i) H0 fs Φ := fun H k _ c =>
  ⟨p, _, i, _, rfl, rfl, h H k, hi, c _ fs H k q⟩
theorem WO.no {Φo : Option Int → Fs → Prop} (q : Φo Option.none fs) : WO tNoPart σ H0 fs Φo := fun H k _ c => c Option.none fs H k q
theorem WO.part {Φo : Option Int → Fs → Prop} (h : W te σ H0 fs fun x f1 => ∃ i, x = .int i ∧ Φo (some i) f1) : WO (tPart te) σ H0 fs Φo := fun H k _ c =>
  h H k _ fun _ _ H1 k1 ⟨i, e, q⟩ => ⟨i, e, c _ _ H1 k1 q⟩
theorem W.sl {r : V → Option Int → Option Int → Hp → VK → Prop} {tl th : TO} (h : W te σ H0 fs fun x f1 => WO tl σ H0 f1 fun lo f2 => WO th σ H0 f2 fun hi f3 => RS r x lo hi H0 f3 Φ) : W (tSl r te tl th) σ H0 fs Φ := fun H k Q c =>
  h H k _ fun _ _ H1 k1 h1 => h1 H1 k1 _ fun _ _ H2 k2 h2 => h2 H2 k2 _ fun _ _ H3 k3 h3 => h3 H3 k3 Q c
theorem RS.l {p : Addr} {xs : List V} {lo hi : Option Int} (h : Rl K H0 fs p xs) (q : ∀ l, Φ (.ref l) ((l, .lst (cutV xs lo hi)) :: fs)) : RS (rSlL K) (.ref p) lo hi H0 fs Φ := fun H k _ c =>
  ⟨p, xs, rfl, h H k, fun l hl => c _ _ _ (k.new hl) (q l)⟩
theorem cut_take {ns : List Int} {i : Int} (h : 0 ≤ i) : cutV (zV ns) none (some i) = zV (ns.take i.toNat) := by
  obtain ⟨k, rfl⟩ := Int.eq_ofNat_of_zero_le h
  unfold cutV
  rw [HT.sIx_nat, HT.sIx_none, zV_length, List.drop_zero, Nat.sub_zero]
  unfold zV
  rw [List.map_take]
  have e : ((k : Int)).toNat = k := by simp
  rw [e]
  by_cases hk : k ≤ ns.length
  · rw [Nat.min_eq_left hk]
  · rw [Nat.min_eq_right (by omega), List.take_of_length_le (by simp), List.take_of_length_le (by simp; omega)]
theorem cut_drop {ns : List Int} {i : Int} (h : 0 ≤ i) : cutV (zV ns) (some i) none = zV (ns.drop i.toNat) := by
  obtain ⟨k, rfl⟩ := Int.eq_ofNat_of_zero_le h
  unfold cutV
  rw [HT.sIx_nat, HT.sIx_none, zV_length]
  unfold zV
  rw [List.map_drop]
  have e : ((k : Int)).toNat = k := by simp
  rw [e]
  by_cases hk : k ≤ ns.length
  · rw [Nat.min_eq_left hk, List.take_of_length_le (by simp)]
  · rw [Nat.min_eq_right (by omega), List.drop_of_length_le (by simp), List.drop_of_length_le (by simp; omega)]
    exact List.take_nil
theorem RS.take {p : Addr} {ns : List Int} {i : Int} (h : Rl K H0 fs p (zV ns)) (hi : 0 ≤ i) (q : ∀ l, Φ (.ref l) ((l, .lst (zV (ns.take i.toNat))) :: fs)) : RS (rSlL K) (.ref p) none (some i) H0 fs Φ := RS.l h (by rw [cut_take hi]; exact q)
theorem RS.drop {p : Addr} {ns : List Int} {i : Int} (h : Rl K H0 fs p (zV ns)) (hi : 0 ≤ i) (q : ∀ l, Φ (.ref l) ((l, .lst (zV (ns.drop i.toNat))) :: fs)) : RS (rSlL K) (.ref p) (some i) none H0 fs Φ := RS.l h (by rw [cut_drop hi]; exact q)

/-! ### lists joined, repeated -/
theorem RW.cat {p q : Addr} {xs ys : List V} (h1 : Rx H0 fs p (.lst xs)) (h2 : Rx H0 fs q (.lst ys)) (hl : xs.length + ys.length ≤ 1000000) (c : ∀ l, Φ (.ref l) ((l, .lst (xs ++ ys)) :: fs)) : RW rCat (.ref p) (.ref q) H0 fs Φ := fun H k _ cc =>
  ⟨p, q, xs, ys, rfl, rfl, h1 H k, h2 H k, sz_le hl, fun l hl => cc _ _ _ (k.new hl) (c l)⟩
theorem RW.catZ {p q : Addr} {xs ys : List Int} (h1 : Rx H0 fs p (.lst (zV xs))) (h2 : Rx H0 fs q (.lst (zV ys))) (hl : xs.length + ys.length ≤ 1000000) (c : ∀ l, Φ (.ref l) ((l, .lst (zV (xs ++ ys))) :: fs)) : RW rCat (.ref p) (.ref q) H0 fs Φ :=
  RW.cat h1 h2 (by rw [zV_length, zV_length]; exact hl) (by rw [zV_app]; exact c)
theorem flat_rep (x : Int) : ∀ k : Nat, (List.replicate k (zV [x])).flatten = zV (List.replicate k x)
  | 0 => rfl
  | k + 1 => by
    rw [List.replicate_succ, List.flatten_cons, flat_rep x k, List.replicate_succ]; rfl
theorem RW.rep {p : Addr} {x k : Int} (h1 : Rx H0 fs p (.lst (zV [x]))) (hk : k ≤ 1000000 ∧ -1000000 ≤ k) (c : ∀ l, Φ (.ref l) ((l, .lst (zV (List.replicate k.toNat x))) :: fs)) : RW rRep (.ref p) (.int k) H0 fs Φ := fun H kn _ cc => by
  refine ⟨p, k, zV [x], rfl, rfl, h1 H kn, by omega, by omega, sz_le (by show 1 * k.toNat ≤ _; omega), fun l hl => ?_⟩
  rw [flat_rep]
  exact cc _ _ _ (kn.new hl) (c l)

/-! ### tests -/
theorem WT.test (h : W te σ H0 fs fun x f1 => ∃ b, x = .bl b ∧ ΦT b f1) : WT (tTest te) σ H0 fs ΦT := fun H k _ c =>
  h H k _ fun _ _ H1 k1 ⟨b, e, q⟩ => ⟨b, e, c _ _ H1 k1 q⟩
theorem WT.b (h : W te σ H0 fs fun x f1 => ∃ b, x = .bl b ∧ ΦT b f1) : WT (tB te) σ H0 fs ΦT := fun H k _ c =>
  h H k _ fun _ _ H1 k1 ⟨b, e, q⟩ => ⟨b, e, c _ _ H1 k1 q⟩
theorem WT.not (h : WT t σ H0 fs fun b f1 => ΦT (!b) f1) : WT (tNot t) σ H0 fs ΦT := fun H k _ c => h H k _ fun _ _ H1 k1 q => c _ _ H1 k1 q
theorem WT.and (h : WT t σ H0 fs fun b f1 => (b = true → WT u σ H0 f1 ΦT) ∧ (b = false → ΦT false f1)) : WT (tAnd t u) σ H0 fs ΦT := fun H k _ c =>
  h H k _ fun b _ H1 k1 q => by
    cases b with
    | true => exact (q.1 rfl) H1 k1 _ c
    | false => exact c _ _ H1 k1 (q.2 rfl)
theorem WT.or (h : WT t σ H0 fs fun b f1 => (b = true → ΦT true f1) ∧ (b = false → WT u σ H0 f1 ΦT)) : WT (tOr t u) σ H0 fs ΦT := fun H k _ c =>
  h H k _ fun b _ H1 k1 q => by
    cases b with
    | true => exact c _ _ H1 k1 (q.1 rfl)
    | false => exact (q.2 rfl) H1 k1 _ c
theorem W.andV (h : W ta σ H0 fs fun x f1 => ∃ b, x = .bl b ∧ (b = true → W tb σ H0 f1 Φ) ∧ (b = false → Φ (.bl false) f1)) : W (tAndV ta tb) σ H0 fs Φ := fun H k _ c =>
  h H k _ fun _ _ H1 k1 ⟨b, e, q⟩ => ⟨b, e, by
    cases b with
    | true => exact (q.1 rfl) H1 k1 _ c
    | false => exact c _ _ H1 k1 (q.2 rfl)⟩
theorem W.orV (h : W ta σ H0 fs fun x f1 => ∃ b, x = .bl b ∧ (b = true → Φ (.bl true) f1) ∧ (b = false → W tb σ H0 f1 Φ)) : W (tOrV ta tb) σ H0 fs Φ := fun H k _ c =>
  h H k _ fun _ _ H1 k1 ⟨b, e, q⟩ => ⟨b, e, by
    cases b with
    | true => exact c _ _ H1 k1 (q.1 rfl)
    | false => exact (q.2 rfl) H1 k1 _ c⟩
theorem W.notV (h : W ta σ H0 fs fun x f1 => ∃ b, x = .bl b ∧ Φ (.bl (!b)) f1) : W (tNotV ta) σ H0 fs Φ := fun H k _ c =>
  h H k _ fun _ _ H1 k1 ⟨b, e, q⟩ => ⟨b, e, c _ _ H1 k1 q⟩
theorem W.chain (h : W ta σ H0 fs fun x f1 => W tb σ H0 f1 fun y f2 => RW r x y H0 f2 fun z f3 => ∃ b, z = .bl b ∧ (b = true → W tc σ H0 f3 fun w f4 => RW r' y w H0 f4 Φ) ∧ (b = false → Φ (.bl false) f3)) : W (tChain r r' ta tb tc) σ H0 fs Φ := fun H k Q c =>
  h H k _ fun _ _ H1 k1 h1 => h1 H1 k1 _ fun _ _ H2 k2 h2 => h2 H2 k2 _ fun _ _ H3 k3 ⟨b, e, q⟩ => ⟨b, e, by
    cases b with
    | true => exact (q.1 rfl) H3 k3 _ fun _ _ H4 k4 h4 => h4 H4 k4 Q c
    | false => exact c _ _ H3 k3 (q.2 rfl)⟩
end

/-! ### statements -/
section
variable {σ : St} {H0 : Hp} {fs : Fs} {te ta tb : TE} {t : TT} {D : Ends} {ts tu tw tz : TS} {i : Nat} {v : V} {K : PySem.W.Frag}
theorem S.seq (h : N (ts { D with nx := tz D }) σ H0 fs) : N (tSeq ts tz D) σ H0 fs := h
theorem S.next (h : N D.nx σ H0 fs) : N (tNext D) σ H0 fs := h
theorem S.asg (h : W te σ H0 fs fun v f1 => N D.nx (σ.set i (some v)) H0 f1) : N (tAsg te (gName i) D) σ H0 fs := fun H k => h H k _ fun _ _ H1 k1 q => q H1 k1
theorem S.ret (h : W te σ H0 fs fun v f1 => NR D.rt v H0 f1) : N (tRet te D) σ H0 fs := fun H k => h H k _ fun _ _ H1 k1 q => q H1 k1
theorem S.drop (h : W te σ H0 fs fun _ f1 => N D.nx σ H0 f1) : N (tDrop te D) σ H0 fs := fun H k => h H k _ fun _ _ H1 k1 q => q H1 k1
theorem S.if_ (h : WT t σ H0 fs fun b f1 => (b = true → N (ts D) σ H0 f1) ∧ (b = false → N (tu D) σ H0 f1)) : N (tIfS t ts tu D) σ H0 fs := fun H k => h H k _ fun b _ H1 k1 q => by
  cases b with
  | true => exact (q.1 rfl) H1 k1
  | false => exact (q.2 rfl) H1 k1
/-- if t: x = e, one way: x has w behind it -/
theorem S.ifset (w : V) (h : WT t σ H0 fs fun b f1 => f1 = fs ∧ (b = true → W te σ H0 fs fun v f2 => v = w ∧ f2 = fs) ∧ (b = false → σ.set i (some w) = σ)) (hn : N D.nx (σ.set i (some w)) H0 fs) :
    N (tIfS t (tAsg te (gName i)) tNext D) σ H0 fs := fun H k => h H k _ fun b _ H1 k1 ⟨ef, q1, q2⟩ => by
  subst ef
  cases b with
  | true => exact q1 rfl H1 k1 _ fun v f2 H2 k2 ⟨e, e2⟩ => by subst e e2; exact hn H2 k2
  | false =>
    have := hn H1 k1
    rw [q2 rfl] at this
    exact this
/-- xs.append(e) -/
theorem S.app (h : W ta σ H0 fs fun x f1 => ∃ l, x = .ref l ∧ (∃ ys, Rl K H0 f1 l ys) ∧ W te σ H0 f1 fun v f2 => ∃ (xs : List V) (j : Nat), f2[j]? = some (l, .lst xs) ∧ xs.length < 1000000 ∧ N D.nx σ H0 (f2.set j (l, .lst (xs ++ [v])))) :
    N (tDrop (tBM K "list" rAppend ta (tCons te tNil)) D) σ H0 fs := fun H k => h H k _ fun _ _ H1 k1 ⟨l, e, ⟨ys, hy⟩, q⟩ => by
  subst e
  refine ⟨.inl ⟨rfl, ys, hy H1 k1⟩, q H1 k1 _ fun v f2 H2 k2 ⟨xs, j, hj, hl, n⟩ => ⟨l, xs, v, rfl, rfl, k2.get (List.mem_of_getElem? hj), sz_lt hl, n _ (k2.put hj)⟩⟩
/-- xs[i] = e -/
theorem S.setL (h : W te σ H0 fs fun v f1 => W ta σ H0 f1 fun x f2 => W tb σ H0 f2 fun y f3 => ∃ (l : Addr) (z : Int) (xs : List V) (j : Nat), x = .ref l ∧ y = .int z ∧ f3[j]? = some (l, .lst xs) ∧ (0 ≤ z ∧ z < (xs.length : Int)) ∧ N D.nx σ H0 (f3.set j (l, .lst (xs.set z.toNat v)))) :
    N (tAsg te (gSub ta tb rSetL) D) σ H0 fs := fun H k => h H k _ fun _ _ H1 k1 q => q H1 k1 _ fun _ _ H2 k2 q => q H2 k2 _ fun _ _ H3 k3 ⟨l, z, xs, j, e1, e2, hj, hz, n⟩ => by
  subst e1 e2
  exact ⟨l, xs, z, z.toNat, rfl, rfl, k3.get (List.mem_of_getElem? hj), ixN_int hz.1 hz.2, n _ (k3.put hj)⟩
/-- a, b, .. = e -/
theorem S.asgT {n : Nat} {g : TGs} (h : W te σ H0 fs fun v f1 => ∃ a xs, v = .ref a ∧ Rt K H0 f1 a xs ∧ xs.length = n ∧ ∀ H, Kn H0 f1 H → g xs σ H D.nx) : N (tAsg te (gTup K n g) D) σ H0 fs := fun H k =>
  h H k _ fun _ _ H1 k1 ⟨a, xs, e, hr, hl, q⟩ => ⟨a, xs, e, hr H1 k1, hl, q H1 k1⟩
/-- loops; I: what holds ahead of the i-th turn of the slots and the owned objects -/
structure Lp (H0 : Hp) (I : Nat → St → Fs → Prop) (i : Nat) (σ : St) (H : Hp) : Prop where
  ex : ∃ fs, Kn H0 fs H ∧ I i σ fs
theorem Lp.nx {I : Nat → St → Fs → Prop} {i : Nat} (h : I i σ fs) : N (Lp H0 I i) σ H0 fs := fun _ k => ⟨fs, k, h⟩
theorem Lp.sub {I : Nat → St → Fs → Prop} {i : Nat} (f1 : Fs) (s : List.Sublist f1 fs) (h : I i σ f1) : N (Lp H0 I i) σ H0 fs := fun _ k => ⟨f1, k.sub s, h⟩
theorem S.forR {ta : TA} {j : Nat} {n : Int} (I : Nat → St → Fs → Prop)
    (h : WA ta σ H0 fs fun vs f1 => vs = [.int n] ∧ n ≤ 1000000 ∧ -1000000 ≤ n ∧ I 0 σ f1)
    (hs : ∀ (i : Nat) σ' f', (i : Int) < n → I i σ' f' → N (ts { D with nx := Lp H0 I (i + 1), ct := Lp H0 I (i + 1), bk := D.nx }) (σ'.set j (some (.int (i : Int)))) H0 f')
    (hd : ∀ σ' f', I n.toNat σ' f' → N D.nx σ' H0 f') : N (tFor (iRng1 ta) (gName j) ts D) σ H0 fs := fun H k =>
  h H k _ fun vs f1 H1 k1 ⟨e, hn, hm, h0⟩ => by
    refine ⟨n, e, by omega, by omega, for_range (lo := 0) (n := n.toNat) (Lp H0 I) ⟨f1, k1, h0⟩ (fun i σ' H' hi p => ?_) (fun σ' H' p => ?_)⟩
    · obtain ⟨f', k', p⟩ := p.ex
      have e0 : (0 : Int) + (i : Int) = (i : Int) := Int.zero_add _
      show ts _ (σ'.set j (some (.int ((0 : Int) + (i : Int))))) H'
      rw [e0]
      exact hs i σ' f' (by omega) p H' k'
    · obtain ⟨f', k', p⟩ := p.ex
      exact hd σ' f' p H' k'
theorem S.forR2 {ta : TA} {j : Nat} {lo n : Int} (I : Nat → St → Fs → Prop)
    (h : WA ta σ H0 fs fun vs f1 => vs = [.int lo, .int n] ∧ (n ≤ 1000000 ∧ -1000000 ≤ n ∧ lo ≤ 1000000 ∧ -1000000 ≤ lo) ∧ I 0 σ f1)
    (hs : ∀ (i : Nat) σ' f', lo + (i : Int) < n → I i σ' f' → N (ts { D with nx := Lp H0 I (i + 1), ct := Lp H0 I (i + 1), bk := D.nx }) (σ'.set j (some (.int (lo + (i : Int))))) H0 f')
    (hd : ∀ σ' f', I (n - lo).toNat σ' f' → N D.nx σ' H0 f') : N (tFor (iRng2 ta) (gName j) ts D) σ H0 fs := fun H k =>
  h H k _ fun vs f1 H1 k1 ⟨e, hn, h0⟩ => by
    refine ⟨lo, n, e, ⟨by omega, by omega, by omega, by omega⟩, for_range (lo := lo) (n := (n - lo).toNat) (Lp H0 I) ⟨f1, k1, h0⟩ (fun i σ' H' hi p => ?_) (fun σ' H' p => ?_)⟩
    · obtain ⟨f', k', p⟩ := p.ex
      exact hs i σ' f' (by omega) p H' k'
    · obtain ⟨f', k', p⟩ := p.ex
      exact hd σ' f' p H' k'
/-- over a list that the body leaves as it is -/
theorem S.forL {a : Addr} {xs : List V} {g : TG} (I : Nat → St → Fs → Prop)
    (h : W te σ H0 fs fun v f1 => v = .ref a ∧ Rl K H0 f1 a xs ∧ I 0 σ f1)
    (hl : ∀ i σ' f', I i σ' f' → Rl K H0 f' a xs)
    (hs : ∀ (i : Nat) x σ' f', xs[i]? = some x → I i σ' f' → ∀ H, Kn H0 f' H → g x σ' H fun σ2 H2 => ts { D with nx := Lp H0 I (i + 1), ct := Lp H0 I (i + 1), bk := D.nx } σ2 H2)
    (hd : ∀ σ' f', I xs.length σ' f' → N D.nx σ' H0 f') : N (tFor (iList K te) g ts D) σ H0 fs := fun H k =>
  h H k _ fun v f1 H1 k1 ⟨e, hr, h0⟩ => by
    refine ⟨a, e, ⟨xs, hr H1 k1⟩, for_list (K := K) (a := a) (xs := xs) (Lp H0 I) ⟨f1, k1, h0⟩ (fun i σ' H' _ p => ?_) (fun i x σ' H' hx p => ?_) (fun σ' H' p => ?_)⟩
    · obtain ⟨f', k', p⟩ := p.ex
      exact hl i σ' f' p H' k'
    · obtain ⟨f', k', p⟩ := p.ex
      exact hs i x σ' f' hx p H' k'
    · obtain ⟨f', k', p⟩ := p.ex
      exact hd σ' f' p H' k'
/-- .. its items ints, its target a name -/
theorem S.forZ {a : Addr} {ns : List Int} {j : Nat} (I : Nat → St → Fs → Prop)
    (h : W te σ H0 fs fun v f1 => v = .ref a ∧ Rl K H0 f1 a (zV ns) ∧ I 0 σ f1)
    (hl : ∀ i σ' f', I i σ' f' → Rl K H0 f' a (zV ns))
    (hs : ∀ (i : Nat) σ' f', i < ns.length → I i σ' f' → N (ts { D with nx := Lp H0 I (i + 1), ct := Lp H0 I (i + 1), bk := D.nx }) (σ'.set j (some (.int (ns.getD i 0)))) H0 f')
    (hd : ∀ σ' f', I ns.length σ' f' → N D.nx σ' H0 f') : N (tFor (iList K te) (gName j) ts D) σ H0 fs := by
  refine S.forL (xs := zV ns) I h hl (fun i x σ' f' hx p H k => ?_) (fun σ' f' p => hd σ' f' (by rw [zV_length] at p; exact p))
  obtain ⟨hi, e⟩ := List.getElem?_eq_some_iff.mp hx
  rw [zV_length] at hi
  have e2 : x = .int (ns.getD i 0) := by
    have := zV_get (ns := ns) (i := i) (x := ns[i]) (List.getElem?_eq_getElem hi)
    rw [hx] at this
    rw [Option.some.inj this, List.getD_eq_getElem?_getD, List.getElem?_eq_getElem hi]; rfl
  subst e2
  exact hs i σ' f' hi p H k
/-- reversed(a list of ints) -/
theorem S.forRev {ta : TA} {a : Addr} {ns : List Int} {j : Nat} (I : Nat → St → Fs → Prop)
    (h : WA ta σ H0 fs fun vs f1 => vs = [.ref a] ∧ Rl K H0 f1 a (zV ns) ∧ I 0 σ f1)
    (hl : ∀ i σ' f', I i σ' f' → Rl K H0 f' a (zV ns))
    (hs : ∀ (i : Nat) σ' f', i < ns.length → I i σ' f' → N (ts { D with nx := Lp H0 I (i + 1), ct := Lp H0 I (i + 1), bk := D.nx }) (σ'.set j (some (.int (ns.reverse.getD i 0)))) H0 f')
    (hd : ∀ σ' f', I ns.length σ' f' → N D.nx σ' H0 f') : N (tFor (iRev K ta) (gName j) ts D) σ H0 fs := fun H k =>
  h H k _ fun vs f1 H1 k1 ⟨e, hr, h0⟩ => by
    refine ⟨a, zV ns, e, hr H1 k1, RT.for_Itv (K := K) (a := a) (xs := zV ns) (Lp H0 I) ⟨f1, k1, h0⟩ (fun i σ' H' p => ?_) (fun i x σ' H' hi hx p => ?_) (fun σ' H' p => ?_)⟩
    · obtain ⟨f', k', p⟩ := p.ex
      exact hl i σ' f' p H' k'
    · obtain ⟨f', k', p⟩ := p.ex
      rw [zV_length] at hi hx
      have hb : ns.length - 1 - i < ns.length := by omega
      have e2 : x = .int (ns.reverse.getD i 0) := by
        have := zV_get (ns := ns) (i := ns.length - 1 - i) (x := ns[ns.length - 1 - i]) (List.getElem?_eq_getElem hb)
        rw [hx] at this
        rw [Option.some.inj this, List.getD_eq_getElem?_getD, List.getElem?_reverse hi, List.getElem?_eq_getElem hb]; rfl
      subst e2
      exact hs i σ' f' hi p H' k'
    · obtain ⟨f', k', p⟩ := p.ex
      rw [zV_length] at p
      exact hd σ' f' p H' k'
/-- range(n), n written: turn by turn -/
structure Un (H0 : Hp) (I : St → Fs → Prop) (σ : St) (H : Hp) : Prop where
  ex : ∃ fs, Kn H0 fs H ∧ I σ fs
theorem Un.nx {I : St → Fs → Prop} (h : I σ fs) : N (Un H0 I) σ H0 fs := fun _ k => ⟨fs, k, h⟩
def UU (H0 : Hp) (ts : TS) (D : Ends) (j : Nat) : Nat → Nat → St → Fs → Prop
  | 0, _, σ, f => N D.nx σ H0 f
  | m + 1, i, σ, f => N (ts { D with nx := Un H0 (UU H0 ts D j m (i + 1)), ct := Un H0 (UU H0 ts D j m (i + 1)), bk := D.nx }) (σ.set j (some (.int (i : Int)))) H0 f
theorem UU.zero {j i : Nat} (h : N D.nx σ H0 fs) : UU H0 ts D j 0 i σ fs := h
theorem UU.succ {j i m : Nat} (h : N (ts { D with nx := Un H0 (UU H0 ts D j m (i + 1)), ct := Un H0 (UU H0 ts D j m (i + 1)), bk := D.nx }) (σ.set j (some (.int (i : Int)))) H0 fs) : UU H0 ts D j (m + 1) i σ fs := h
theorem S.forU {ta : TA} {j : Nat} (n : Nat) (h : WA ta σ H0 fs fun vs f1 => vs = [.int (n : Int)] ∧ n ≤ 1000000 ∧ UU H0 ts D j n 0 σ f1) : N (tFor (iRng1 ta) (gName j) ts D) σ H0 fs := fun H k =>
  h H k _ fun vs f1 H1 k1 ⟨e, hn, h0⟩ => by
    refine ⟨(n : Int), e, by omega, by omega, for_range (lo := 0) (n := ((n : Int)).toNat) (fun i σ H => ∃ m f, m + i = n ∧ Kn H0 f H ∧ UU H0 ts D j m i σ f) ⟨n, f1, by omega, k1, h0⟩ (fun i σ' H' hi p => ?_) (fun σ' H' p => ?_)⟩
    · obtain ⟨m, f, hm, k', p⟩ := p
      obtain ⟨m, rfl⟩ : ∃ m', m = m' + 1 := ⟨m - 1, by omega⟩
      have e0 : (0 : Int) + (i : Int) = (i : Int) := Int.zero_add _
      show ts _ (σ'.set j (some (.int ((0 : Int) + (i : Int))))) H'
      rw [e0]
      have q := p H' k'
      have ee : Un H0 (UU H0 ts D j m (i + 1)) = fun σ H => ∃ m f, m + (i + 1) = n ∧ Kn H0 f H ∧ UU H0 ts D j m (i + 1) σ f := by
        funext σ2 H2
        refine propext ⟨fun ⟨f, k2, u⟩ => ⟨m, f, by omega, k2, u⟩, fun ⟨m', f, hm', k2, u⟩ => ⟨f, k2, ?_⟩⟩
        have : m' = m := by omega
        subst this
        exact u
      rw [ee] at q
      exact q
    · obtain ⟨m, f, hm, k', p⟩ := p
      have : m = 0 := by omega
      subst this
      exact p H' k'
/-- a statement, then the rest, with a word between them -/
def tCut (t u : TS) : TS := fun D σ H => ∃ Mid : St → Hp → Prop, t { D with nx := Mid } σ H ∧ ∀ σ' H', Mid σ' H' → u D σ' H'
theorem pss_cut {X : Cx} {st : Stmt} {rest : List Stmt} {t u : TS} (h1 : PS X st t) (h2 : PSs X rest u) : PSs X (st :: rest) (tCut t u) := by
  refine ⟨fun pins s σ H D I h => ?_⟩
  obtain ⟨Mid, hm, hu⟩ := h
  refine wpAny_execs_cons (thn (h1.run pins s σ H { D with nx := Mid } I hm) fun f s1 q => ?_)
  cases f with
  | next =>
    obtain ⟨σ', H', I', q⟩ := q
    exact h2.run pins s1 σ' H' D I' (hu σ' H' q)
  | ret v => exact q
  | brk => exact q
  | cont => exact q
theorem S.cut (I : St → Fs → Prop) (h : N (ts { D with nx := Un H0 I }) σ H0 fs) (k : ∀ σ' f', I σ' f' → N (tz D) σ' H0 f') : N (tCut ts tz D) σ H0 fs := fun H kn =>
  ⟨Un H0 I, h H kn, fun σ' H' ⟨⟨f', k', i⟩⟩ => k σ' f' i H' k'⟩
theorem Un.sub {I : St → Fs → Prop} (f1 : Fs) (s : List.Sublist f1 fs) (h : I σ f1) : N (Un H0 I) σ H0 fs := fun _ k => ⟨f1, k.sub s, h⟩
/-- while; I: what holds, by a number that falls -/
structure Wl (H0 : Hp) (I : Nat → St → Fs → Prop) (m : Nat) (σ : St) (H : Hp) : Prop where
  ex : ∃ m', m' < m ∧ ∃ fs, Kn H0 fs H ∧ I m' σ fs
theorem Wl.nx {I : Nat → St → Fs → Prop} {m m' : Nat} (hm : m' < m) (h : I m' σ fs) : N (Wl H0 I m) σ H0 fs := fun _ k => ⟨m', hm, fs, k, h⟩
theorem Wl.sub {I : Nat → St → Fs → Prop} {m m' : Nat} (f1 : Fs) (s : List.Sublist f1 fs) (hm : m' < m) (h : I m' σ f1) : N (Wl H0 I m) σ H0 fs := fun _ k => ⟨m', hm, f1, k.sub s, h⟩
theorem S.while_ (I : Nat → St → Fs → Prop) (m0 : Nat) (h0 : I m0 σ fs)
    (hs : ∀ m σ' f', I m σ' f' → WT t σ' H0 f' fun b f1 => (b = true → N (ts { D with nx := Wl H0 I m, ct := Wl H0 I m, bk := D.nx }) σ' H0 f1) ∧ (b = false → N D.nx σ' H0 f1)) :
    N (tWhile t ts D) σ H0 fs := fun H k => by
  refine ⟨fun m σ H => ∃ fs, Kn H0 fs H ∧ I m σ fs, ⟨m0, fs, k, h0⟩, fun m σ' H' ⟨f', k', p⟩ => ?_⟩
  refine hs m σ' f' p H' k' _ fun b f1 H1 k1 q => ?_
  cases b with
  | true =>
    show ∃ N' : St → Hp → Prop, _
    exact ⟨Wl H0 I m, fun σ2 H2 w => w.ex, (q.1 rfl) H1 k1⟩
  | false => exact (q.2 rfl) H1 k1
end

/-! ### comprehensions whose items are all kept -/
section
variable {σ : St} {H0 : Hp} {fs : Fs} {Φ : CV} {te tl : TE} {K : PySem.W.Frag}
/-- over range(n): the i-th item is f i; the item's reading leaves the owned objects as they are (or drops what it made) -/
theorem W.lcR {ta : TA} {j : Nat} {vs : List Nat} {n : Int} (f : Nat → V)
    (h : WA ta σ H0 fs fun us f1 => us = [.int n] ∧ n ≤ 100000 ∧ -100000 ≤ n ∧
      (∀ x, wipe ((wipe σ vs).set j (some x)) vs = wipe σ vs) ∧
      (∀ (i : Nat) (D : Addr) (acc : List V), (i : Int) < n → W te ((wipe σ vs).set j (some (.int (i : Int)))) H0 ((D, .lst acc) :: f1) fun v f2 => v = f i ∧ List.Sublist ((D, .lst acc) :: f1) f2) ∧
      ∀ D, Φ (.ref D) ((D, .lst ((List.range n.toNat).map f)) :: f1)) : W (tLc (iRng1 ta) (gName j) tYes te vs) σ H0 fs Φ := fun H k Q c =>
  h H k _ fun us f1 H1 k1 ⟨e, hn, hm, hw, hs, hd⟩ => by
    refine ⟨n, e, by omega, by omega, fun D hD => ?_⟩
    refine lc_range (lo := 0) (n := n.toNat) (fun i H' => Kn H0 ((D, .lst ((List.range i).map f)) :: f1) H') (k1.new hD) (fun i H' hi p => ?_) (fun H' p => c _ _ _ p (hd D))
    have e0 : (0 : Int) + (i : Int) = (i : Int) := Int.zero_add _
    refine ⟨hw _, ?_⟩
    show te ((wipe σ vs).set j (some (.int ((0 : Int) + (i : Int))))) H' _
    rw [e0]
    refine hs i D _ (by omega) H' p _ fun v f2 H2 k2 ⟨ev, sb⟩ => ?_
    subst ev
    have k3 := k2.sub sb
    refine ⟨_, k3.get (.head _), sz_lt (by simp; omega), ?_⟩
    have k4 := k3.put (i := 0) (o' := .lst ((List.range i).map f ++ [f i])) rfl
    show Kn H0 ((D, .lst ((List.range (i + 1)).map f)) :: f1) _
    rw [List.range_succ, List.map_append]
    exact k4
/-- over a list of ints -/
theorem W.lcZ {ns : List Int} {j : Nat} {vs : List Nat} (f : Int → V)
    (h : W tl σ H0 fs fun v f1 => ∃ a, v = .ref a ∧ Rl K H0 f1 a (zV ns) ∧ ns.length ≤ 100000 ∧
      (∀ x, wipe ((wipe σ vs).set j (some x)) vs = wipe σ vs) ∧
      (∀ (x : Int) (D : Addr) (acc : List V), x ∈ ns → W te ((wipe σ vs).set j (some (.int x))) H0 ((D, .lst acc) :: f1) fun v f2 => v = f x ∧ List.Sublist ((D, .lst acc) :: f1) f2) ∧
      ∀ D, Φ (.ref D) ((D, .lst (ns.map f)) :: f1)) : W (tLc (iList K tl) (gName j) tYes te vs) σ H0 fs Φ := fun H k Q c =>
  h H k _ fun v f1 H1 k1 ⟨a, e, hr, hn, hw, hs, hd⟩ => by
    refine ⟨a, e, ⟨_, hr H1 k1⟩, fun D hD => ?_⟩
    refine lc_list (K := K) (a := a) (xs := zV ns) (fun i H' => Kn H0 ((D, .lst ((ns.take i).map f)) :: f1) H') (k1.new hD) (fun i H' _ p => hr H' p.drop) (fun i x H' hi p => ?_) (fun H' p => ?_)
    · obtain ⟨hl, e1⟩ := List.getElem?_eq_some_iff.mp hi
      rw [zV_length] at hl
      have e2 : x = .int ns[i] := by
        have := zV_get (ns := ns) (i := i) (x := ns[i]) (List.getElem?_eq_getElem hl)
        rw [hi] at this
        exact Option.some.inj this
      subst e2
      refine ⟨hw _, ?_⟩
      refine hs ns[i] D _ (List.getElem_mem hl) H' p _ fun v f2 H2 k2 ⟨ev, sb⟩ => ?_
      subst ev
      have k3 := k2.sub sb
      refine ⟨_, k3.get (.head _), sz_lt (by simp; omega), ?_⟩
      have k4 := k3.put (i := 0) (o' := .lst ((ns.take i).map f ++ [f ns[i]])) rfl
      show Kn H0 ((D, .lst ((ns.take (i + 1)).map f)) :: f1) _
      rw [List.take_add_one, List.getElem?_eq_getElem hl, List.map_append]
      exact k4
    · rw [zV_length, List.take_length] at p
      exact c _ _ _ p (hd D)
end
end Pa

namespace Pa
open PySem PySem.Spec PyProof.Rows L2

/-! ### products, quotients -/
section
variable {X : Cx}
theorem op_mulG : OpR X (binaryOp .Mult) (rI IntMulOk fun i j => .int (i * j)) := opI fun _ _ _ _ _ _ _ hc q => mul_int q hc
/-- // by a divisor other than nought -/
def CDivG (i j : Int) : Prop := j ≠ 0 ∧ Builtin.divisionGoesByPylong i j = false
theorem op_fdivG : OpR X (binaryOp .FloorDiv) (rI CDivG fun i j => .int (i.fdiv j)) := opI fun _ _ _ _ _ _ _ hc q => floordiv_int hc.1 q (.inl hc.2)
theorem op_addS : OpR X (binaryOp .Add) (fun x y H Q => ∃ i j, x = .str i ∧ y = .str j ∧ i.length + j.length ≤ sizeLine ∧ Q (.str (i ++ j)) H) := op_add_str
end
theorem CDivG.small {i j : Int} (h : j ≠ 0) (h2 : j.natAbs < 1073741824) : CDivG i j := ⟨h, PyProof.noPylong_small h2⟩
theorem CDivG.bits {i j : Int} {b : Nat} (h : j ≠ 0) (h2 : j.natAbs < 2 ^ b) (hb : b ≤ 9000) : CDivG i j :=
  ⟨h, PyProof.noPylong_of_log2 ((Nat.log2_lt (fun z => h (Int.natAbs_eq_zero.mp z))).mpr (Nat.lt_of_lt_of_le h2 (Nat.pow_le_pow_right (by decide) hb)))⟩
theorem mulL {i j : Int} (h1 : -(2 ^ 64) < i) (h2 : i < 2 ^ 64) : IntMulOk i j := .of_left (intBits_le_64 h1 h2)
theorem mulR {i j : Int} (h1 : -(2 ^ 64) < j) (h2 : j < 2 ^ 64) : IntMulOk i j := .of_right (intBits_le_64 h1 h2)
theorem bits_of {i : Int} {a : Nat} (h : i.natAbs < 2 ^ a) : Builtin.Int.intBits i ≤ a := by
  unfold Builtin.Int.intBits
  split
  · exact Nat.zero_le _
  · by_cases h0 : i.natAbs = 0
    · rename_i hi
      exact absurd (by simpa using (Int.natAbs_eq_zero.mp h0)) hi
    · have := (Nat.log2_lt h0).mpr h
      omega
theorem mulB {i j : Int} {a b : Nat} (ha : i.natAbs < 2 ^ a) (hb : j.natAbs < 2 ^ b) (h : a + b ≤ 134217728) : IntMulOk i j := by
  have h1 := bits_of ha
  have h2 := bits_of hb
  have e : bitsLine = 134217728 := by decide
  unfold IntMulOk
  intro z
  rw [Bool.and_eq_true] at z
  have z2 := z.2
  unfold Builtin.Int.intTooBig at z2
  have z3 := of_decide_eq_true z2
  rw [e] at z3
  omega

/-! ### comprehensions of ints -/
section
variable {σ : St} {H0 : Hp} {fs : Fs} {Φ : CV} {te tl : TE} {K : PySem.W.Frag}
theorem map_zV {α : Type} (l : List α) (g : α → Int) : l.map (fun i => V.int (g i)) = zV (l.map g) := by
  unfold zV; rw [List.map_map]; rfl
theorem W.lcRz {ta : TA} {j : Nat} {vs : List Nat} {n : Int} (g : Nat → Int)
    (h : WA ta σ H0 fs fun us f1 => us = [.int n] ∧ n ≤ 100000 ∧ -100000 ≤ n ∧
      (∀ x, wipe ((wipe σ vs).set j (some x)) vs = wipe σ vs) ∧
      (∀ (i : Nat) (D : Addr) (acc : List V), (i : Int) < n → W te ((wipe σ vs).set j (some (.int (i : Int)))) H0 ((D, .lst acc) :: f1) fun v f2 => v = .int (g i) ∧ List.Sublist ((D, .lst acc) :: f1) f2) ∧
      ∀ D, Φ (.ref D) ((D, .lst (zV ((List.range n.toNat).map g))) :: f1)) : W (tLc (iRng1 ta) (gName j) tYes te vs) σ H0 fs Φ := by
  refine W.lcR (n := n) (fun i => .int (g i)) ?_
  rw [map_zV]
  exact h
theorem W.lcZz {ns : List Int} {j : Nat} {vs : List Nat} (g : Int → Int)
    (h : W tl σ H0 fs fun v f1 => ∃ a, v = .ref a ∧ Rl K H0 f1 a (zV ns) ∧ ns.length ≤ 100000 ∧
      (∀ x, wipe ((wipe σ vs).set j (some x)) vs = wipe σ vs) ∧
      (∀ (x : Int) (D : Addr) (acc : List V), x ∈ ns → W te ((wipe σ vs).set j (some (.int x))) H0 ((D, .lst acc) :: f1) fun v f2 => v = .int (g x) ∧ List.Sublist ((D, .lst acc) :: f1) f2) ∧
      ∀ D, Φ (.ref D) ((D, .lst (zV (ns.map g))) :: f1)) : W (tLc (iList K tl) (gName j) tYes te vs) σ H0 fs Φ := by
  refine W.lcZ (ns := ns) (fun i => .int (g i)) ?_
  rw [map_zV]
  exact h
end

/-! ### isinstance -/
section
variable {H0 : Hp} {fs : Fs} {Φ : CV} {K : PySem.W.Frag}
theorem RC.isiII {i : Int} (q : Φ (.bl true) fs) : RC (rIsi K) [.int i, .ty "int"] H0 fs Φ := RC.isi (fun _ _ => .base (.int i)) (kit_ty (by decide +kernel)) q
theorem RC.isiIB {i : Int} (q : Φ (.bl false) fs) : RC (rIsi K) [.int i, .ty "bool"] H0 fs Φ := RC.isi (fun _ _ => .base (.int i)) (kit_ty (by decide +kernel)) q
theorem RC.isiBB {b : Bool} (q : Φ (.bl true) fs) : RC (rIsi K) [.bl b, .ty "bool"] H0 fs Φ := RC.isi (fun _ _ => .base (.bl b)) (kit_ty (by decide +kernel)) q
theorem RC.isiSI {x : Str} (q : Φ (.bl false) fs) : RC (rIsi K) [.str x, .ty "int"] H0 fs Φ := RC.isi (fun _ _ => .base (.str x)) (kit_ty (by decide +kernel)) q
theorem RC.isiSB {x : Str} (q : Φ (.bl false) fs) : RC (rIsi K) [.str x, .ty "bool"] H0 fs Φ := RC.isi (fun _ _ => .base (.str x)) (kit_ty (by decide +kernel)) q
theorem RC.isiSS {x : Str} (q : Φ (.bl true) fs) : RC (rIsi K) [.str x, .ty "str"] H0 fs Φ := RC.isi (fun _ _ => .base (.str x)) (kit_ty (by decide +kernel)) q
theorem RC.isiNI (q : Φ (.bl false) fs) : RC (rIsi K) [.non, .ty "int"] H0 fs Φ := RC.isi (fun _ _ => .base .non) (kit_ty (by decide +kernel)) q
theorem RC.isiNB (q : Φ (.bl false) fs) : RC (rIsi K) [.non, .ty "bool"] H0 fs Φ := RC.isi (fun _ _ => .base .non) (kit_ty (by decide +kernel)) q
theorem RC.isiLL {p : Addr} {xs : List V} (h : Rx H0 fs p (.lst xs)) (q : Φ (.bl true) fs) : RC (rIsi K) [.ref p, .ty "list"] H0 fs Φ := RC.isi (fun H k => .base (.lst (h H k))) (kit_ty (by decide +kernel)) q
theorem RC.isiTT {p : Addr} {xs : List V} (h : Rx H0 fs p (.tup xs)) (q : Φ (.bl true) fs) : RC (rIsi K) [.ref p, .ty "tuple"] H0 fs Φ := RC.isi (fun H k => .base (.tup (h H k))) (kit_ty (by decide +kernel)) q
theorem RC.isiLI {p : Addr} {xs : List V} (h : Rx H0 fs p (.lst xs)) (q : Φ (.bl false) fs) : RC (rIsi K) [.ref p, .ty "int"] H0 fs Φ := RC.isi (fun H k => .base (.lst (h H k))) (kit_ty (by decide +kernel)) q
theorem RC.isiLB {p : Addr} {xs : List V} (h : Rx H0 fs p (.lst xs)) (q : Φ (.bl false) fs) : RC (rIsi K) [.ref p, .ty "bool"] H0 fs Φ := RC.isi (fun H k => .base (.lst (h H k))) (kit_ty (by decide +kernel)) q
theorem RC.isiTI {p : Addr} {xs : List V} (h : Rx H0 fs p (.tup xs)) (q : Φ (.bl false) fs) : RC (rIsi K) [.ref p, .ty "int"] H0 fs Φ := RC.isi (fun H k => .base (.tup (h H k))) (kit_ty (by decide +kernel)) q
theorem RC.isiTB {p : Addr} {xs : List V} (h : Rx H0 fs p (.tup xs)) (q : Φ (.bl false) fs) : RC (rIsi K) [.ref p, .ty "bool"] H0 fs Φ := RC.isi (fun H k => .base (.tup (h H k))) (kit_ty (by decide +kernel)) q
end

theorem S.dropS {σ : St} {H0 : Hp} {fs : Fs} {tr : TA} {D : Ends} {sp : Sp} {E : St → XK} (h : W (tCallS sp E tr) σ H0 fs fun _ f1 => N D.nx σ H0 f1) : N (tDrop (tCallS sp E tr) D) σ H0 fs := S.drop h
/-! ### the ends -/
theorem N.sub {e : St → Hp → Prop} {σ : St} {H0 : Hp} {fs : Fs} (f0 : Fs) (s : List.Sublist f0 fs) (h : N e σ H0 f0) : N e σ H0 fs := fun H k => h H (k.sub s)
theorem N.of {e : St → Hp → Prop} {σ : St} {H0 : Hp} {fs : Fs} (h : N e σ H0 fs) : ∀ H, Kn H0 fs H → e σ H := h
theorem N.go {t : TS} {D : Ends} {σ : St} {H : Hp} (h : N (t D) σ H []) : t D σ H := h H (Same.refl H)
theorem NR.sub {Q : VK} {v : V} {H : Hp} {f1 f2 : Fs} (h : NR Q v H f1) (s : List.Sublist f1 f2) : NR Q v H f2 := fun H' k => h H' (k.sub s)
theorem NR.k {Q : VK} {v : V} {H : Hp} {f1 : Fs} (h : NR Q v H f1) {H' : Hp} (k : Kn H f1 H') : Q v H' := h H' k
end Pa

namespace Pa

/-! ### rows without noughts at their end -/
def trim (xs : List Int) : List Int := (xs.reverse.dropWhile (· == 0)).reverse
theorem trim_nil : trim [] = [] := rfl
theorem trim_zero (xs : List Int) : trim (xs ++ [0]) = trim xs := by
  unfold trim
  rw [List.reverse_append]
  rfl
theorem trim_last (xs : List Int) {x : Int} (h : x ≠ 0) : trim (xs ++ [x]) = xs ++ [x] := by
  unfold trim
  rw [List.reverse_append]
  show (List.dropWhile (· == 0) (x :: xs.reverse)).reverse = _
  rw [List.dropWhile_cons_of_neg (by simpa using h), List.reverse_cons, List.reverse_reverse]
/-- its last number is not nought -/
def Tr (xs : List Int) : Prop := trim xs = xs
theorem snoc_cases (xs : List Int) : xs = [] ∨ ∃ ys y, xs = ys ++ [y] := by
  cases h : xs.reverse with
  | nil => left; simpa using h
  | cons y ys => right; exact ⟨ys.reverse, y, by rw [← List.reverse_reverse xs, h, List.reverse_cons]⟩
theorem trim_cases (xs : List Int) : ∃ k, xs = trim xs ++ List.replicate k 0 ∧ (trim xs = [] ∨ ∃ ys y, trim xs = ys ++ [y] ∧ y ≠ 0) := by
  generalize hn : xs.length = n
  induction n generalizing xs with
  | zero =>
    have : xs = [] := List.length_eq_zero_iff.mp hn
    subst this
    exact ⟨0, rfl, .inl rfl⟩
  | succ n ih =>
    rcases snoc_cases xs with rfl | ⟨ys, y, rfl⟩
    · simp at hn
    · by_cases hy : y = 0
      · subst hy
        obtain ⟨k, e, c⟩ := ih ys (by simpa using hn)
        rw [trim_zero]
        refine ⟨k + 1, ?_, c⟩
        rw [List.replicate_succ', ← List.append_assoc, ← e]
      · refine ⟨0, ?_, .inr ⟨ys, y, trim_last ys hy, hy⟩⟩
        rw [trim_last ys hy]; simp
theorem tr_trim (xs : List Int) : Tr (trim xs) := by
  obtain ⟨k, e, c | ⟨ys, y, c, hy⟩⟩ := trim_cases xs
  · unfold Tr; rw [c]; rfl
  · unfold Tr; rw [c, trim_last ys hy]
theorem trim_length_le (xs : List Int) : (trim xs).length ≤ xs.length := by
  obtain ⟨k, e, _⟩ := trim_cases xs
  have := congrArg List.length e
  rw [List.length_append] at this
  omega
theorem mem_trim {xs : List Int} {x : Int} (h : x ∈ trim xs) : x ∈ xs := by
  obtain ⟨k, e, _⟩ := trim_cases xs
  rw [e]; exact List.mem_append_left _ h
theorem tr_nil : Tr [] := rfl
theorem tr_last {xs : List Int} (h : Tr xs) (hne : xs ≠ []) : xs.getLast hne ≠ 0 := by
  rcases snoc_cases xs with rfl | ⟨ys, y, rfl⟩
  · exact absurd rfl hne
  · rw [show (ys ++ [y]).getLast hne = y by simp]
    intro hy
    subst hy
    unfold Tr at h
    rw [trim_zero] at h
    have := congrArg List.length h
    have h2 := trim_length_le ys
    simp at this
    omega
theorem tr_of_last {ys : List Int} {y : Int} (h : y ≠ 0) : Tr (ys ++ [y]) := trim_last ys h
theorem take_succ_getD {xs : List Int} {n : Nat} (h : n < xs.length) : xs.take (n + 1) = xs.take n ++ [xs.getD n 0] := by
  rw [List.take_add_one, List.getElem?_eq_getElem h, List.getD_eq_getElem?_getD, List.getElem?_eq_getElem h]; rfl

theorem trim_rep (xs : List Int) : ∀ k : Nat, trim (xs ++ List.replicate k 0) = trim xs
  | 0 => by simp
  | k + 1 => by rw [List.replicate_succ', ← List.append_assoc, trim_zero, trim_rep xs k]

/-! ### bounds -/
def Bd (a : Nat) (x : Int) : Prop := x.natAbs < 2 ^ a
def BdL (a : Nat) (xs : List Int) : Prop := ∀ x ∈ xs, x.natAbs < 2 ^ a
theorem Bd.mono {a b : Nat} {x : Int} (h : Bd a x) (hab : a ≤ b) : Bd b x := Nat.lt_of_lt_of_le h (Nat.pow_le_pow_right (by decide) hab)
theorem BdL.mono {a b : Nat} {xs : List Int} (h : BdL a xs) (hab : a ≤ b) : BdL b xs := fun x hx => Bd.mono (h x hx) hab
theorem Bd.mul {a b : Nat} {x y : Int} (hx : Bd a x) (hy : Bd b y) : Bd (a + b) (x * y) := by
  unfold Bd at *
  rw [Int.natAbs_mul, Nat.pow_add]
  exact Nat.mul_lt_mul'' hx hy
theorem Bd.add {a : Nat} {x y : Int} (hx : Bd a x) (hy : Bd a y) : Bd (a + 1) (x + y) := by
  unfold Bd at *
  have := Int.natAbs_add_le x y
  rw [Nat.pow_succ]; omega
theorem Bd.neg {a : Nat} {x : Int} (hx : Bd a x) : Bd a (-x) := by
  unfold Bd at *; rw [Int.natAbs_neg]; exact hx
theorem Bd.sub {a : Nat} {x y : Int} (hx : Bd a x) (hy : Bd a y) : Bd (a + 1) (x - y) := by
  rw [Int.sub_eq_add_neg]; exact hx.add hy.neg
theorem Bd.zero {a : Nat} : Bd a 0 := by
  unfold Bd; exact Nat.two_pow_pos a
theorem BdL.trim {a : Nat} {xs : List Int} (h : BdL a xs) : BdL a (trim xs) := fun x hx => h x (mem_trim hx)
theorem BdL.at {a : Nat} {xs : List Int} (h : BdL a xs) (i : Nat) : Bd a (xs.getD i 0) := by
  rw [List.getD_eq_getElem?_getD]
  cases e : xs[i]? with
  | none => exact Bd.zero
  | some x => exact h x (List.mem_of_getElem? e)
theorem BdL.gat {a : Nat} {xs : List Int} (h : BdL a xs) (i : Int) : Bd a (gat xs i) := h.at i.toNat
theorem BdL.nil {a : Nat} : BdL a [] := fun _ h => nomatch h
theorem Bd.of_abs {a : Nat} {x : Int} {n : Nat} (h : x.natAbs ≤ n) (hn : n < 2 ^ a) : Bd a x := Nat.lt_of_le_of_lt h hn

/-! ### sums -/
def plus (xs ys : List Int) : List Int := trim ((List.range (max (xs.length : Int) (ys.length : Int)).toNat).map fun (k : Nat) => gat xs (k : Int) + gat ys (k : Int))
def minus (xs ys : List Int) : List Int := trim ((List.range (max (xs.length : Int) (ys.length : Int)).toNat).map fun (k : Nat) => gat xs (k : Int) - gat ys (k : Int))
def scaled (xs : List Int) (m : Int) : List Int := trim (xs.map fun x => m * x)
theorem plus_len (xs ys : List Int) : (plus xs ys).length ≤ max xs.length ys.length := by
  unfold plus
  refine Nat.le_trans (trim_length_le _) ?_
  rw [List.length_map, List.length_range]; omega
theorem minus_len (xs ys : List Int) : (minus xs ys).length ≤ max xs.length ys.length := by
  unfold minus
  refine Nat.le_trans (trim_length_le _) ?_
  rw [List.length_map, List.length_range]; omega
theorem scaled_len (xs : List Int) (m : Int) : (scaled xs m).length ≤ xs.length := by
  unfold scaled
  refine Nat.le_trans (trim_length_le _) ?_
  rw [List.length_map]; omega
theorem plus_bd {a : Nat} {xs ys : List Int} (hx : BdL a xs) (hy : BdL a ys) : BdL (a + 1) (plus xs ys) := by
  refine BdL.trim fun z hz => ?_
  obtain ⟨k, _, rfl⟩ := List.mem_map.mp hz
  exact (hx.gat _).add (hy.gat _)
theorem minus_bd {a : Nat} {xs ys : List Int} (hx : BdL a xs) (hy : BdL a ys) : BdL (a + 1) (minus xs ys) := by
  refine BdL.trim fun z hz => ?_
  obtain ⟨k, _, rfl⟩ := List.mem_map.mp hz
  exact (hx.gat _).sub (hy.gat _)
theorem scaled_bd {a b : Nat} {xs : List Int} {m : Int} (hx : BdL a xs) (hm : Bd b m) : BdL (b + a) (scaled xs m) := by
  refine BdL.trim fun z hz => ?_
  obtain ⟨k, hk, rfl⟩ := List.mem_map.mp hz
  exact hm.mul (hx k hk)

/-! ### the value -/
def pval : List Int → Int → Int
  | [], _ => 0
  | a :: r, x => a + x * pval r x
theorem pval_append (xs ys : List Int) (x : Int) : pval (xs ++ ys) x = pval xs x + x ^ xs.length * pval ys x := by
  induction xs with
  | nil => simp [pval]
  | cons a r ih =>
    simp only [List.cons_append, pval, ih, List.length_cons, Int.pow_succ]
    rw [Int.mul_add, Int.add_assoc, ← Int.mul_assoc, Int.mul_comm x (x ^ r.length)]
theorem pval_take_succ {ns : List Int} {i : Nat} (h : i < ns.length) (x : Int) : pval (ns.take (i + 1)) x = pval (ns.take i) x + ns.getD i 0 * x ^ i := by
  rw [take_succ_getD h, pval_append, List.length_take, Nat.min_eq_left (Nat.le_of_lt h)]
  simp only [pval, Int.mul_zero, Int.add_zero]
  rw [Int.mul_comm (x ^ i)]
theorem drop_pred_getD {ns : List Int} {i : Nat} (h : i < ns.length) : ns.drop (ns.length - (i + 1)) = ns.reverse.getD i 0 :: ns.drop (ns.length - i) := by
  have hb : ns.length - 1 - i < ns.length := by omega
  rw [List.drop_eq_getElem_cons (by omega : ns.length - (i + 1) < ns.length), List.getD_eq_getElem?_getD, List.getElem?_reverse h, List.getElem?_eq_getElem hb]
  have e1 : ns.length - (i + 1) + 1 = ns.length - i := by omega
  have e2 : ns.length - (i + 1) = ns.length - 1 - i := by omega
  rw [e1]
  simp only [Option.getD_some, e2]
theorem pval_bd {a b : Nat} {x : Int} (hx : Bd b x) : ∀ {ns : List Int}, BdL a ns → Bd (a + (b + 1) * ns.length) (pval ns x)
  | [], _ => Bd.zero
  | n :: r, h => by
    have ih := pval_bd hx (ns := r) fun y hy => h y (List.mem_cons_of_mem _ hy)
    have h1 : Bd a n := h n List.mem_cons_self
    have h2 := hx.mul ih
    have h3 := (h1.mono (b := b + (a + (b + 1) * r.length)) (by omega)).add h2
    refine h3.mono ?_
    rw [List.length_cons, Nat.mul_succ]
    omega
theorem Bd.pow {b : Nat} {x : Int} (hx : Bd b x) : ∀ n : Nat, Bd (b * n + 1) (x ^ n)
  | 0 => by unfold Bd; simp
  | n + 1 => by
    rw [Int.pow_succ]
    exact ((Bd.pow hx n).mul hx).mono (by rw [Nat.mul_succ]; omega)
end Pa
namespace Pa
/-! ### loops -/
def lp {α : Type} (f : Nat → α → α) : Nat → α → α
  | 0, s => s
  | n + 1, s => f n (lp f n s)
theorem lp_inv {α : Type} {f : Nat → α → α} {s : α} (p : Nat → α → Prop) (h0 : p 0 s) : ∀ n : Nat, (∀ i a, i < n → p i a → p (i + 1) (f i a)) → p n (lp f n s)
  | 0, _ => h0
  | n + 1, hs => hs n _ (Nat.lt_succ_self n) (lp_inv p h0 n fun i a hi => hs i a (Nat.lt_succ_of_lt hi))

/-! ### products -/
/-- one number's turn -/
def tmIn (x : Int) (ys : List Int) (j k : Nat) (acc : List Int) : List Int := acc.set (j + k) (acc.getD (j + k) 0 + x * ys.getD k 0)
def tmRow (xs ys : List Int) (j : Nat) (acc : List Int) : List Int := lp (tmIn (xs.getD j 0) ys j) ys.length acc
def tmRaw (xs ys : List Int) : List Int := lp (tmRow xs ys) xs.length (List.replicate (xs.length + ys.length) 0)
def tm (xs ys : List Int) : List Int := trim (tmRaw xs ys)
theorem tmIn_len (x : Int) (ys : List Int) (j k : Nat) (acc : List Int) : (tmIn x ys j k acc).length = acc.length := List.length_set
theorem lp_len {f : Nat → List Int → List Int} (h : ∀ i a, (f i a).length = a.length) : ∀ (n : Nat) (s : List Int), (lp f n s).length = s.length
  | 0, _ => rfl
  | n + 1, s => (h n _).trans (lp_len h n s)
theorem tmRow_len (xs ys : List Int) (j : Nat) (acc : List Int) : (tmRow xs ys j acc).length = acc.length := lp_len (fun i a => tmIn_len _ _ _ _ _) _ _
theorem tmRaw_len (xs ys : List Int) : (tmRaw xs ys).length = xs.length + ys.length := by
  unfold tmRaw
  rw [lp_len (fun i a => tmRow_len _ _ _ _), List.length_replicate]
theorem getD_set (l : List Int) (i j : Nat) (x : Int) : (l.set i x).getD j 0 = if i = j then (if i < l.length then x else 0) else l.getD j 0 := by
  rw [List.getD_eq_getElem?_getD, List.getD_eq_getElem?_getD, List.getElem?_set]
  split
  · rename_i h
    subst h
    split
    · rfl
    · rfl
  · rfl
theorem getD_replicate (n j : Nat) : (List.replicate n (0 : Int)).getD j 0 = 0 := by
  rw [List.getD_eq_getElem?_getD, List.getElem?_replicate]
  split <;> rfl
theorem tmIn_getD (x : Int) (ys : List Int) (j k : Nat) (acc : List Int) (i : Nat) : (tmIn x ys j k acc).getD i 0 = if j + k = i then (if j + k < acc.length then acc.getD (j + k) 0 + x * ys.getD k 0 else 0) else acc.getD i 0 := getD_set _ _ _ _
/-- how great a product's numbers are -/
theorem tm_bd {a b c : Nat} {xs ys : List Int} (hx : BdL a xs) (hy : BdL b ys) (hl : xs.length ≤ 2 ^ c) : BdL (a + b + c) (tm xs ys) := by
  refine BdL.trim ?_
  have key : ∀ i, (tmRaw xs ys).getD i 0 = 0 ∨ ((tmRaw xs ys).getD i 0).natAbs < xs.length * 2 ^ (a + b) := by
    unfold tmRaw
    refine lp_inv (fun n (acc : List Int) => ∀ i, acc.getD i 0 = 0 ∨ (acc.getD i 0).natAbs < n * 2 ^ (a + b)) (fun i => .inl (getD_replicate _ _)) xs.length fun j acc hj hacc => ?_
    unfold tmRow
    have in1 : ∀ i, ((lp (tmIn (xs.getD j 0) ys j) ys.length acc).getD i 0 = acc.getD i 0) ∨ (((lp (tmIn (xs.getD j 0) ys j) ys.length acc).getD i 0).natAbs < (acc.getD i 0).natAbs + 2 ^ (a + b)) := by
      have in2 : ∀ n, ∀ i, (i < j + n → ((lp (tmIn (xs.getD j 0) ys j) n acc).getD i 0 = acc.getD i 0) ∨ (((lp (tmIn (xs.getD j 0) ys j) n acc).getD i 0).natAbs < (acc.getD i 0).natAbs + 2 ^ (a + b))) ∧
          (j + n ≤ i → (lp (tmIn (xs.getD j 0) ys j) n acc).getD i 0 = acc.getD i 0) := by
        intro n
        induction n with
        | zero => exact fun i => ⟨fun _ => .inl rfl, fun _ => rfl⟩
        | succ n ih =>
          intro i
          show (_ → (tmIn _ _ _ _ _).getD i 0 = _ ∨ ((tmIn _ _ _ _ _).getD i 0).natAbs < _) ∧ (_ → (tmIn _ _ _ _ _).getD i 0 = _)
          rw [tmIn_getD]
          by_cases hi : j + n = i
          · subst hi
            rw [if_pos rfl]
            refine ⟨fun _ => ?_, fun h => by omega⟩
            have e := (ih (j + n)).2 (Nat.le_refl _)
            by_cases hlt : j + n < (lp (tmIn (xs.getD j 0) ys j) n acc).length
            · rw [if_pos hlt, e]
              right
              have h1 := (hx.at j).mul (hy.at n)
              unfold Bd at h1
              have h2 := Int.natAbs_add_le (acc.getD (j + n) 0) (xs.getD j 0 * ys.getD n 0)
              omega
            · rw [if_neg hlt]
              left
              rw [← e, List.getD_eq_getElem?_getD, List.getElem?_eq_none (by omega)]; rfl
          · rw [if_neg hi]
            exact ⟨fun h => (ih i).1 (by omega), fun h => (ih i).2 (by omega)⟩
      intro i
      by_cases h : i < j + ys.length
      · exact (in2 ys.length i).1 h
      · exact .inl ((in2 ys.length i).2 (by omega))
    intro i
    have hpos : 0 < 2 ^ (a + b) := Nat.two_pow_pos _
    have hsucc : (j + 1) * 2 ^ (a + b) = j * 2 ^ (a + b) + 2 ^ (a + b) := Nat.succ_mul _ _
    rcases in1 i with e | h
    · rw [e]
      rcases hacc i with h0 | h0
      · exact .inl h0
      · exact .inr (by omega)
    · right
      rcases hacc i with h0 | h0
      · rw [h0] at h
        simp only [Int.natAbs_zero] at h
        have : 0 ≤ j * 2 ^ (a + b) := Nat.zero_le _
        omega
      · omega
  intro x hx'
  obtain ⟨i, hi, rfl⟩ := List.getElem_of_mem hx'
  have e : (tmRaw xs ys)[i] = (tmRaw xs ys).getD i 0 := by
    rw [List.getD_eq_getElem?_getD, List.getElem?_eq_getElem hi]; rfl
  rw [e]
  rcases key i with h | h
  · rw [h]; exact Nat.two_pow_pos _
  · refine Nat.lt_of_lt_of_le h ?_
    rw [Nat.pow_add 2 (a + b) c, Nat.mul_comm]
    exact Nat.mul_le_mul_left _ hl
/-- the topmost place stays nought -/
theorem tmRaw_top (xs ys : List Int) (i : Nat) (h : xs.length + ys.length ≤ i + 1) : (tmRaw xs ys).getD i 0 = 0 := by
  unfold tmRaw
  refine lp_inv (fun _ (acc : List Int) => acc.getD i 0 = 0) (getD_replicate _ _) xs.length fun j acc hj hacc => ?_
  unfold tmRow
  refine lp_inv (fun _ (a : List Int) => a.getD i 0 = 0) hacc ys.length fun k a hk ha => ?_
  rw [tmIn_getD, if_neg (by omega)]
  exact ha
theorem trim_len_le {xs : List Int} {n : Nat} (h : ∀ i, n ≤ i → xs.getD i 0 = 0) : (trim xs).length ≤ n := by
  obtain ⟨k, e, c | ⟨ys, y, c, hy⟩⟩ := trim_cases xs
  · rw [c]; exact Nat.zero_le _
  · refine Nat.le_of_not_lt fun hlt => hy ?_
    have hz := h ys.length (by rw [c] at hlt; simp at hlt; omega)
    rw [e, c, List.getD_eq_getElem?_getD] at hz
    simpa using hz
theorem tm_len (xs ys : List Int) : (tm xs ys).length ≤ xs.length + ys.length - 1 := trim_len_le fun i hi => tmRaw_top xs ys i (by omega)
theorem tm_nil_right (xs : List Int) : tm xs [] = [] := by
  have h := trim_len_le (xs := tmRaw xs []) (n := 0) fun i _ => by
    unfold tmRaw
    refine lp_inv (fun _ (acc : List Int) => acc.getD i 0 = 0) (getD_replicate _ _) xs.length fun j acc hj hacc => hacc
  exact List.length_eq_zero_iff.mp (Nat.le_zero.mp h)
theorem tm_tr (xs ys : List Int) : Tr (tm xs ys) := tr_trim _

/-! ### powers -/
def pw (xs : List Int) : Nat → List Int
  | 0 => [1]
  | n + 1 => tm (pw xs n) xs
theorem pw_len (xs : List Int) : ∀ n : Nat, (pw xs n).length ≤ 1 + n * (xs.length - 1)
  | 0 => by simp [pw]
  | n + 1 => by
    have ih := pw_len xs n
    show (tm (pw xs n) xs).length ≤ _
    cases xs with
    | nil => rw [tm_nil_right]; exact Nat.zero_le _
    | cons x r =>
      have h := tm_len (pw (x :: r) n) (x :: r)
      simp only [List.length_cons, Nat.add_sub_cancel] at h ih ⊢
      rw [Nat.succ_mul]
      omega
theorem pw_bd {b c : Nat} {xs : List Int} (hx : BdL b xs) : ∀ n : Nat, (∀ i, i < n → (pw xs i).length ≤ 2 ^ c) → BdL (1 + n * (b + c)) (pw xs n)
  | 0, _ => fun x hx => by
    have : x = 1 := by simpa [pw] using hx
    subst this
    rw [Nat.zero_mul]; decide
  | n + 1, h => by
    have ih := pw_bd hx n fun i hi => h i (Nat.lt_succ_of_lt hi)
    refine (tm_bd ih hx (h n (Nat.lt_succ_self n))).mono ?_
    rw [Nat.succ_mul]; omega
end Pa

namespace Pa
open PySem PySem.Spec PyProof.Rows L2

abbrev veT : List Value := [.type "ValueError", .type "Exception", .type "BaseException", .type "object"]
/-- what the top says of an error's class -/
structure Err (K : PySem.W.Frag) (mg : Str → Option Value) (x : Str) (C : Addr) : Prop where
  g : mg x = some (.ref C)
  x : PySem.W.excIn K C veT "ValueError.__new__" = true
  k : PySem.W.keepIn K (.ref C) = true
  b : PySem.W.subIn K (.ref C) (.type "BaseException") = some true
  t : PySem.W.typeIn K (.ref C) = some (.type "type")
  h : PySem.W.hasDictIn K C = true
  i : ExcC K C
  v : PySem.W.kitOne K (.ref C) (.type "ValueError") = some true

theorem kit_ve {K : PySem.W.Frag} {C : Addr} (h : PySem.W.subIn K (.ref C) (.type "ValueError") = some true) : PySem.W.kitOne K (.ref C) (.type "ValueError") = some true := by
  have m : PySem.W.kitMeta "ValueError" = true := by decide +kernel
  unfold PySem.W.kitOne
  rw [if_neg (by intro z; exact nomatch (beq_iff_eq.mp z))]
  show (if PySem.W.kitMeta "ValueError" = true then PySem.W.subIn K (.ref C) (.type "ValueError") else none) = some true
  rw [if_pos m]
  exact h
/-! ### an exception's way -/
/-- a wish of an exception, over the owned objects -/
def NX (Wx : WX) (cls : Value) (d : Option Addr) (σ : St) (H0 : Hp) (fs : Fs) : Prop := ∀ H, Kn H0 fs H → Wx cls d σ H
def NE (E : XK) (cls : Value) (d : Option Addr) (H0 : Hp) (fs : Fs) : Prop := ∀ H, Kn H0 fs H → E cls d H
/-- a call that raises for certain -/
def WCX (sp : Sp) (vs : List V) (H0 : Hp) (fs : Fs) (Ψ : Value → Option Addr → Fs → Prop) : Prop := ∀ H, Kn H0 fs H → ∀ (Q : VK) (E : XK), (∀ cls d f' H', Kn H0 f' H' → Ψ cls d f' → E cls d H') → sp vs H Q E
/-- one that may raise -/
def WCB (sp : Sp) (vs : List V) (H0 : Hp) (fs : Fs) (Φ : CV) (Ψ : Value → Option Addr → Fs → Prop) : Prop := ∀ H, Kn H0 fs H → ∀ (Q : VK) (E : XK), (∀ v fs' H', Kn H0 fs' H' → Φ v fs' → Q v H') → (∀ cls d f' H', Kn H0 f' H' → Ψ cls d f' → E cls d H') → sp vs H Q E
section
variable {σ : St} {H0 : Hp} {fs : Fs} {Φ : CV} {tr : TA} {Wx : WX} {K : PySem.W.Frag} {c cls : Value} {d : Option Addr} {D : Ends} {ts : Addr → Value → Option Addr → TS} {Wout : WX} {i : Nat}
theorem W.callX {sp : Sp} (h : WA tr σ H0 fs fun vs f1 => WCX sp vs H0 f1 fun cls d f2 => NX Wx cls d σ H0 f2) : W (tCallS sp (WE Wx) tr) σ H0 fs Φ := fun H k Q _ =>
  h H k _ fun vs _ H1 k1 h1 => h1 H1 k1 Q _ fun cls d _ H2 k2 n => n H2 k2
theorem W.callB {sp : Sp} (h : WA tr σ H0 fs fun vs f1 => WCB sp vs H0 f1 Φ fun cls d f2 => NX Wx cls d σ H0 f2) : W (tCallS sp (WE Wx) tr) σ H0 fs Φ := fun H k Q cc =>
  h H k _ fun vs _ H1 k1 h1 => h1 H1 k1 Q _ cc fun cls d _ H2 k2 n => n H2 k2
theorem NX.only (hb : PySem.W.exmOne K cls c = some true) (h : ∀ a, N (ts a cls d D) σ H0 fs) : NX (wOnly K c ts Wout D) cls d σ H0 fs := fun H k => ⟨true, hb, fun _ a _ => h a H k, fun z => Bool.noConfusion z⟩
theorem NX.onlyF (hb : PySem.W.exmOne K cls c = some false) (h : NX Wout cls d σ H0 fs) : NX (wOnly K c ts Wout D) cls d σ H0 fs := fun H k => ⟨false, hb, fun z => Bool.noConfusion z, fun _ => h H k⟩
theorem NX.as (hb : PySem.W.exmOne K cls c = some true) (h : ∀ a, N (ts a cls d { nx := fun σ' H' => D.nx (σ'.set i none) H', rt := D.rt, bk := fun σ' H' => D.bk (σ'.set i none) H', ct := fun σ' H' => D.ct (σ'.set i none) H' }) (σ.set i (some (.ref a))) H0 fs) :
    NX (wAs K c i ts Wout D) cls d σ H0 fs := fun H k => ⟨true, hb, fun _ a _ => h a H k, fun z => Bool.noConfusion z⟩
theorem NX.many (hb : PySem.W.exmOne K cls c = some true) {r : List (Value × (Addr → Value → Option Addr → TS))} (h : ∀ a, N (ts a cls d D) σ H0 fs) : NX (wMany K Wout D ((c, ts) :: r)) cls d σ H0 fs := fun H k => ⟨true, hb, fun _ a _ => h a H k, fun z => Bool.noConfusion z⟩
theorem NX.manyF (hb : PySem.W.exmOne K cls c = some false) {r : List (Value × (Addr → Value → Option Addr → TS))} (h : NX (wMany K Wout D r) cls d σ H0 fs) : NX (wMany K Wout D ((c, ts) :: r)) cls d σ H0 fs := fun H k => ⟨false, hb, fun z => Bool.noConfusion z, fun _ => h H k⟩
end
/-- isinstance(e, T) of the error that the suite holds -/
def rIsV (K : PySem.W.Frag) (a : Addr) (cls : Value) (d : Option Addr) : List V → Hp → VK → Prop := fun xs H Q => ∃ D, cls = .ref D ∧ d = none ∧ ExcC K D ∧ rIsE K D a xs H Q
theorem call_isV {X : Cx} {a : Addr} {cls : Value} {d : Option Addr} {oe : Obj} {pn : List (Addr × Obj)} (hz : Zc cls d oe) (hf : ∃ vs, oe.data = .fields vs) : CallR (X.suite a ((a, oe) :: pn)) (.builtin "isinstance") (rIsV X.K a cls d) := by
  intro pins s σ H xs us Q I r h
  obtain ⟨D, e1, e2, C, h⟩ := h
  subst e1 e2
  exact call_isE C hz hf pins s σ H xs us Q I r h
theorem RC.isV {K : PySem.W.Frag} {H0 : Hp} {fs : Fs} {Φ : CV} {a D : Addr} {n : String} {b : Bool} (C : ExcC K D) (hk : PySem.W.kitOne K (.ref D) (.type n) = some b) (q : Φ (.bl b) fs) : RC (rIsV K a (.ref D) none) [.ref a, .ty n] H0 fs Φ := fun H k Q c =>
  ⟨D, rfl, rfl, C, .ty n, .type n, b, rfl, fun u r => r, hk, c _ fs H k q⟩
theorem call_isVK {X : Cx} {K : PySem.W.Frag} {a : Addr} {cls : Value} {d : Option Addr} {oe : Obj} {pn : List (Addr × Obj)} (hK : X.K = K) (hz : Zc cls d oe) (hf : ∃ vs, oe.data = .fields vs) : CallR (X.suite a ((a, oe) :: pn)) (.builtin "isinstance") (rIsV K a cls d) := by
  subst hK
  exact call_isV hz hf
section
variable {X : Cx} {K : PySem.W.Frag} {x n : Str} {c : Value} {i : Nat} {body suite : List Stmt} {b₀ : Stmt} {np pos pos' : Pos} {tb : WX → TS} {ts : Addr → Value → Option Addr → TS} {Wout : WX}
theorem ps_try_asK (hK : X.K = K) (hs : X.stack = X.env :: X.outer) (hf : X.env.frame = some X.env.locals) (hN : X.N.Nodup) (hi : X.N[i]? = some n) (hln : X.env.kindOf n = some .local) (hc : Names X x c) (tk : Takes X Wout)
    (hb : ∀ (W : WX) (pn : List (Addr × Obj)) (xe : Value → Shared → Prop), Takes (X.tr pn xe) W → PassesOwn (model X.prog X.w) X.A X.env xe → PSs (X.tr pn xe) body (tb W))
    (hsu : ∀ (a : Addr) (oe : Obj) (cls : Value) (d : Option Addr) (pn : List (Addr × Obj)), Zc cls d oe → (∃ vs, oe.data = .fields vs) → PSs (X.suite a ((a, oe) :: pn)) (b₀ :: suite) (ts a cls d)) :
    PS X (.Try body [.ExceptHandler (some (.Name x np)) (some n) (b₀ :: suite) pos'] [] [] pos) (fun D σ H => tb (wAs K c i ts Wout D) D σ H) := by
  subst hK
  exact ps_try_as hs hf hN hi hln hc tk hb hsu
theorem ps_try_onlyK (hK : X.K = K) (hs : X.stack = X.env :: X.outer) (hf : X.env.frame = some X.env.locals) (hc : Names X x c) (tk : Takes X Wout)
    (hb : ∀ (W : WX) (pn : List (Addr × Obj)) (xe : Value → Shared → Prop), Takes (X.tr pn xe) W → PassesOwn (model X.prog X.w) X.A X.env xe → PSs (X.tr pn xe) body (tb W))
    (hsu : ∀ (a : Addr) (oe : Obj) (cls : Value) (d : Option Addr) (pn : List (Addr × Obj)), Zc cls d oe → (∃ vs, oe.data = .fields vs) → PSs (X.suite a ((a, oe) :: pn)) (b₀ :: suite) (ts a cls d)) :
    PS X (.Try body [.ExceptHandler (some (.Name x np)) none (b₀ :: suite) pos'] [] [] pos) (fun D σ H => tb (wOnly K c ts Wout D) D σ H) := by
  subst hK
  exact ps_try_only hs hf hc tk hb hsu
theorem ps_try_manyK {h₀ : ExceptHandler} {hds : List ExceptHandler} {l : List (Value × (Addr → Value → Option Addr → TS))} (hK : X.K = K) (hs : X.stack = X.env :: X.outer) (hf : X.env.frame = some X.env.locals) (tk : Takes X Wout)
    (hb : ∀ (W : WX) (pn : List (Addr × Obj)) (xe : Value → Shared → Prop), Takes (X.tr pn xe) W → PassesOwn (model X.prog X.w) X.A X.env xe → PSs (X.tr pn xe) body (tb W))
    (hh : HdsOk X (h₀ :: hds) l) : PS X (.Try body (h₀ :: hds) [] [] pos) (fun D σ H => tb (wMany K Wout D l) D σ H) := by
  subst hK
  exact ps_try_many hs hf tk hb hh
end
/-- two promises of one def -/
theorem FnOk.both {P : Program} {w : World} {K : PySem.W.Frag} {mg : Str → Option Value} {base : Heap} {k k' : Nat} {f : Addr} {fd : FuncData} {ps : List Str} {sp1 sp2 : Sp}
    (F1 : FnOk P w K mg base CX0 k f fd ps sp1) (F2 : FnOk P w K mg base (L2.CX P w) k' f fd ps sp2) : FnOk P w K mg base (L2.CX P w) (max k k') f fd ps (fun vs H Q E => sp1 vs H Q E ∨ sp2 vs H Q E) :=
  ⟨fun vs H Q E h => h.elim (F1.len vs H Q E) (F2.len vs H Q E), fun A outer s H args us vs Q E hr he hb hv hs => by
    rcases hs with hs | hs
    · refine codeAny_mono ((F1.mono (Nat.le_max_left k k')).run A outer s H args us vs Q E hr he hb hv hs) fun r s' h => ?_
      cases r with
      | error e => exact False.elim h
      | ok fl => cases fl <;> exact h
    · exact (F2.mono (Nat.le_max_right k k')).run A outer s H args us vs Q E hr he hb hv hs⟩
/-- one that never raises, among those that may -/
theorem FnOk.up {P : Program} {w : World} {K : PySem.W.Frag} {mg : Str → Option Value} {base : Heap} {k : Nat} {f : Addr} {fd : FuncData} {ps : List Str} {sp1 : Sp}
    (F1 : FnOk P w K mg base CX0 k f fd ps sp1) : FnOk P w K mg base (L2.CX P w) k f fd ps sp1 :=
  ⟨F1.len, fun A outer s H args us vs Q E hr he hb hv hs => codeAny_mono (F1.run A outer s H args us vs Q E hr he hb hv hs) fun r s' h => by
    cases r with
    | error e => exact False.elim h
    | ok fl => cases fl <;> exact h⟩
/-- a block that begins with an if and is left in it -/
theorem S.never {D : Ends} {σ : St} {H0 : Hp} {fs : Fs} (h : False) : N (tNever D) σ H0 fs := h.elim
section
variable {P : Program} {w : World} {K : PySem.W.Frag} {mg : Str → Option Value} {base : Heap}
theorem passesX {N : List Str} {qual : Str} {scope : Scope} {f : Addr} {cd : Value} {A : Around} {outer : List Env} {s : Shared} {H : Hp} {E : XK} :
    PassesOwn (model P w) (cxOf (L2.CX P w) P w K mg base N qual scope f cd A outer s H E).A (cxOf (L2.CX P w) P w K mg base N qual scope f cd A outer s H E).env (cxOf (L2.CX P w) P w K mg base N qual scope f cd A outer s H E).xe :=
  passes_of (X := cxOf (L2.CX P w) P w K mg base N qual scope f cd A outer s H E) (K := fun e s' => L2.CX P w outer H s E e s') (E₁ := fun e' s'' => L2.CX P w outer H s E e' s'') rfl
end
end Pa

namespace Pa
open PySem PySem.Spec PyProof.Rows L2

/-! ### data -/
def zD (ns : List Int) : PyData := .list (ns.map .int)
theorem zD_layAll : ∀ ns : List Int, PyData.canLayAll0 (ns.map PyData.int) = true
  | [] => rfl
  | n :: r => by
    show (PyData.canLay0 (.int n) && PyData.canLayAll0 (r.map PyData.int)) = true
    rw [zD_layAll r]; rfl
theorem zD_depthAll : ∀ ns : List Int, PyData.depthAll (ns.map PyData.int) = 0
  | [] => rfl
  | n :: r => by
    show max (PyData.depth (.int n)) (PyData.depthAll (r.map PyData.int)) = 0
    rw [zD_depthAll r]; rfl
theorem zD_lay (ns : List Int) : PyData.canLay0 (zD ns) = true := by
  show PyData.canLayAll0 (ns.map PyData.int) = true
  exact zD_layAll ns
theorem zD_depth (ns : List Int) : PyData.depth (zD ns) = 1 := by
  show PyData.depthAll (ns.map PyData.int) + 1 = 1
  rw [zD_depthAll]
theorem zD_shaped (ns : List Int) : SeqAt.shaped (zD ns) = true := by
  unfold SeqAt.shaped
  rw [zD_lay, zD_depth]; rfl
theorem zD_eqvAll : ∀ xs ys : List Int, PyData.eqvAll (xs.map PyData.int) (ys.map PyData.int) = decide (xs = ys)
  | [], [] => rfl
  | [], y :: ys => rfl
  | x :: xs, [] => rfl
  | x :: xs, y :: ys => by
    show (PyData.eqv (.int x) (.int y) && PyData.eqvAll (xs.map PyData.int) (ys.map PyData.int)) = _
    rw [zD_eqvAll xs ys]
    show ((x == y) && decide (xs = ys)) = _
    rw [Bool.eq_iff_iff]
    simp
theorem zD_eqv (xs ys : List Int) : PyData.eqv (zD xs) (zD ys) = decide (xs = ys) := zD_eqvAll xs ys
theorem zD_dp {K : PySem.W.Frag} {H : Hp} : ∀ ns : List Int, DpAll K H (zV ns) (ns.map PyData.int)
  | [] => .nil
  | n :: r => .cons (.int n) (zD_dp r)
/-- what stands at a value, as data -/
def Rd (K : PySem.W.Frag) (H0 : Hp) (fs : Fs) (v : V) (d : PyData) : Prop := ∀ H, Kn H0 fs H → Dp K H v d
def RdA (K : PySem.W.Frag) (H0 : Hp) (fs : Fs) (vs : List V) (ds : List PyData) : Prop := ∀ H, Kn H0 fs H → DpAll K H vs ds
section
variable {K : PySem.W.Frag} {H0 : Hp} {fs : Fs} {Φ : CV} {x y : V}
theorem Rd.z {a : Addr} {ns : List Int} (h : Rl K H0 fs a (zV ns)) : Rd K H0 fs (.ref a) (zD ns) := fun H k => .lst (h H k) (zD_dp ns)
theorem Rd.int {i : Int} : Rd K H0 fs (.int i) (.int i) := fun _ _ => .int i
theorem Rd.lst {a : Addr} {vs : List V} {ds : List PyData} (h : Rl K H0 fs a vs) (hd : RdA K H0 fs vs ds) : Rd K H0 fs (.ref a) (.list ds) := fun H k => .lst (h H k) (hd H k)
theorem Rd.tup {a : Addr} {vs : List V} {ds : List PyData} (h : Rt K H0 fs a vs) (hd : RdA K H0 fs vs ds) : Rd K H0 fs (.ref a) (.tuple ds) := fun H k => .tup (h H k) (hd H k)
theorem RdA.nil : RdA K H0 fs [] [] := fun _ _ => .nil
theorem RdA.cons {v : V} {vs : List V} {d : PyData} {ds : List PyData} (h : Rd K H0 fs v d) (hr : RdA K H0 fs vs ds) : RdA K H0 fs (v :: vs) (d :: ds) := fun H k => .cons (h H k) (hr H k)
theorem RW.eqD {d e : PyData} (h : Rd K H0 fs x d) (h2 : Rd K H0 fs y e) (s1 : SeqAt.shaped d = true) (s2 : SeqAt.shaped e = true) (q : Φ (.bl (PyData.eqv d e)) fs) : RW (rEqD K) x y H0 fs Φ := fun H k _ c => ⟨d, e, h H k, h2 H k, s1, s2, c _ fs H k q⟩
theorem RW.neD {d e : PyData} (h : Rd K H0 fs x d) (h2 : Rd K H0 fs y e) (s1 : SeqAt.shaped d = true) (s2 : SeqAt.shaped e = true) (q : Φ (.bl (!PyData.eqv d e)) fs) : RW (rNeD K) x y H0 fs Φ := fun H k _ c => ⟨d, e, h H k, h2 H k, s1, s2, c _ fs H k q⟩
theorem RW.eqZ {a b : Addr} {xs ys : List Int} (h : Rl K H0 fs a (zV xs)) (h2 : Rl K H0 fs b (zV ys)) (q : Φ (.bl (decide (xs = ys))) fs) : RW (rEqD K) (.ref a) (.ref b) H0 fs Φ :=
  RW.eqD (Rd.z h) (Rd.z h2) (zD_shaped _) (zD_shaped _) (by rw [zD_eqv]; exact q)
theorem RW.neZ {a b : Addr} {xs ys : List Int} (h : Rl K H0 fs a (zV xs)) (h2 : Rl K H0 fs b (zV ys)) (q : Φ (.bl (!decide (xs = ys))) fs) : RW (rNeD K) (.ref a) (.ref b) H0 fs Φ :=
  RW.neD (Rd.z h) (Rd.z h2) (zD_shaped _) (zD_shaped _) (by rw [zD_eqv]; exact q)
end
/-- x in a written tuple -/
def rInT (K : PySem.W.Frag) : R2 := fun x y H Q => ∃ d ds, Dp K H x d ∧ Dp K H y (.tuple ds) ∧ SeqAt.shaped d = true ∧ SeqAt.shaped (.tuple ds) = true ∧ Q (.bl (ds.any fun z => PyData.eqv z d)) H
theorem op_inT {X : Cx} {k : Nat} (hr : Room k X.A) : OpR X (compareOp .In) (rInT X.K) := by
  intro pins s σ H x y v u Q I rx ry h
  obtain ⟨d, ds, hd, he, sd, se, q⟩ := h
  obtain ⟨as, r1⟩ := Dp.reads I d x v hd rx
  obtain ⟨bs, r2⟩ := Dp.reads I (.tuple ds) y u he ry
  exact SeqAt.in_tuple_reads r2 r1 (SeqAt.canLay_of_shaped se) (SeqAt.canLay_of_shaped sd) (room_in_shaped sd (by have := hr.un; omega)) ⟨.bl _, H, I, rfl, q⟩
theorem op_inDr {X : Cx} {k : Nat} (hr : Room k X.A) : OpR X (compareOp .In) (rInD X.K) := op_inD (by have := hr.un; omega)
theorem op_notInDr {X : Cx} {k : Nat} (hr : Room k X.A) : OpR X (compareOp .NotIn) (rNotInD X.K) := op_notInD (by have := hr.un; omega)
section
variable {K : PySem.W.Frag} {H0 : Hp} {fs : Fs} {Φ : CV} {x y : V}
theorem RW.inT {d : PyData} {ds : List PyData} (h : Rd K H0 fs x d) (h2 : Rd K H0 fs y (.tuple ds)) (s1 : SeqAt.shaped d = true) (s2 : SeqAt.shaped (.tuple ds) = true) (q : Φ (.bl (ds.any fun z => PyData.eqv z d)) fs) : RW (rInT K) x y H0 fs Φ :=
  fun H k _ c => ⟨d, ds, h H k, h2 H k, s1, s2, c _ fs H k q⟩
theorem RW.inD {d : PyData} {ds : List PyData} (h : Rd K H0 fs x d) (h2 : Rd K H0 fs y (.list ds)) (s1 : SeqAt.shaped d = true) (s2 : SeqAt.shaped (.list ds) = true) (q : Φ (.bl (ds.any fun z => PyData.eqv z d)) fs) : RW (rInD K) x y H0 fs Φ :=
  fun H k _ c => ⟨d, ds, h H k, h2 H k, s1, s2, c _ fs H k q⟩
theorem RW.notInD {d : PyData} {ds : List PyData} (h : Rd K H0 fs x d) (h2 : Rd K H0 fs y (.list ds)) (s1 : SeqAt.shaped d = true) (s2 : SeqAt.shaped (.list ds) = true) (q : Φ (.bl (!ds.any fun z => PyData.eqv z d)) fs) : RW (rNotInD K) x y H0 fs Φ :=
  fun H k _ c => ⟨d, ds, h H k, h2 H k, s1, s2, c _ fs H k q⟩
/-- written lists of ints -/
theorem W.lst0 {σ : St} (h : ∀ p, Φ (.ref p) ((p, .lst (zV [])) :: fs)) : W (tLst tNil) σ H0 fs Φ := W.lst (WA.nil ⟨by simp, h⟩)
theorem W.lst1 {σ : St} {ta : TE} (h : W ta σ H0 fs fun x f1 => ∃ a, x = .int a ∧ ∀ p, Φ (.ref p) ((p, .lst (zV [a])) :: f1)) : W (tLst (tCons ta tNil)) σ H0 fs Φ := fun H k Q c =>
  h H k _ fun x f1 H1 k1 ⟨a, e, q⟩ => by
    subst e
    exact ⟨sz_le (by simp), fun p hp => c _ _ _ (k1.new hp) (q p)⟩
end

/-! ### for x in a list or a tuple -/
def iSeq (K : PySem.W.Frag) (tl : TE) : TI := fun σ H R => iList K tl σ H R ∨ iTup K tl σ H R
theorem pi_seq {X : Cx} {tg l : Expr} {tl : TE} (hl : PE X l tl) : PI X tg l (iSeq X.K tl) :=
  ⟨fun pins s σ H R I h => h.elim (fun h => (pi_list hl).run pins s σ H R I h) fun h => (pi_tup hl).run pins s σ H R I h⟩
section
variable {σ : St} {H0 : Hp} {fs : Fs} {te : TE} {D : Ends} {ts : TS} {K : PySem.W.Frag}
theorem S.forQ {a : Addr} {xs : List V} {g : TG} (hq : SqL K H0 a xs ∨ SqT K H0 a xs) (I : Nat → St → Fs → Prop)
    (h : ∀ Φ : CV, Φ (.ref a) fs → W te σ H0 fs Φ) (h0 : I 0 σ fs)
    (hs : ∀ (i : Nat) x σ' f', xs[i]? = some x → I i σ' f' → ∀ H, Kn H0 f' H → g x σ' H fun σ2 H2 => ts { D with nx := Lp H0 I (i + 1), ct := Lp H0 I (i + 1), bk := D.nx } σ2 H2)
    (hd : ∀ σ' f', I xs.length σ' f' → N D.nx σ' H0 f') : N (tFor (iSeq K te) g ts D) σ H0 fs := fun H k => by
  rcases hq with hq | hq
  · refine .inl (h (fun v f1 => v = .ref a ∧ f1 = fs) ⟨rfl, rfl⟩ H k _ fun v f1 H1 k1 ⟨e, ef⟩ => ?_)
    subst ef
    refine ⟨a, e, ⟨xs, k1.same.seq hq⟩, for_list (K := K) (a := a) (xs := xs) (Lp H0 I) ⟨f1, k1, h0⟩ (fun i σ' H' _ p => ?_) (fun i x σ' H' hx p => ?_) (fun σ' H' p => ?_)⟩
    · obtain ⟨f', k', p⟩ := p.ex
      exact k'.same.seq hq
    · obtain ⟨f', k', p⟩ := p.ex
      exact hs i x σ' f' hx p H' k'
    · obtain ⟨f', k', p⟩ := p.ex
      exact hd σ' f' p H' k'
  · have st : ∀ {H' : Hp}, Same H0 H' → SqT K H' a xs := fun {H'} s => by
      rcases hq with (hq | ⟨o, hq⟩) | hq
      · exact .inl (.inl (s _ _ hq))
      · exact .inl (.inr ⟨o, s _ _ hq⟩)
      · exact .inr hq
    refine .inr (h (fun v f1 => v = .ref a ∧ f1 = fs) ⟨rfl, rfl⟩ H k _ fun v f1 H1 k1 ⟨e, ef⟩ => ?_)
    subst ef
    refine ⟨a, e, ⟨xs, st k1.same⟩, for_tup (K := K) (a := a) (xs := xs) (Lp H0 I) ⟨f1, k1, h0⟩ (fun i σ' H' _ p => ?_) (fun i x σ' H' hx p => ?_) (fun σ' H' p => ?_)⟩
    · obtain ⟨f', k', p⟩ := p.ex
      exact st k'.same
    · obtain ⟨f', k', p⟩ := p.ex
      exact hs i x σ' f' hx p H' k'
    · obtain ⟨f', k', p⟩ := p.ex
      exact hd σ' f' p H' k'
theorem RC.listQ {p : Addr} {xs : List V} {Φ : CV} (h : SqL K H0 p xs ∨ SqT K H0 p xs) (q : ∀ l, Φ (.ref l) ((l, .lst xs) :: fs)) : RC (rListOf K) [.ref p] H0 fs Φ := by
  rcases h with h | h
  · exact RC.listL (Rl.sq h) q
  · refine RC.listT (fun H k => ?_) q
    have s := k.same
    rcases h with (h | ⟨o, h⟩) | h
    · exact .inl (.inl (s _ _ h))
    · exact .inl (.inr ⟨o, s _ _ h⟩)
    · exact .inr h
end
/-- things that are no whole number -/
def OddH (H : Hp) (v : V) : Prop := (∃ b, v = .bl b) ∨ v = .non ∨ (∃ s, v = .str s) ∨ (∃ p l, v = .ref p ∧ H p = some (.lst l)) ∨ ∃ p l, v = .ref p ∧ H p = some (.tup l)
theorem OddH.same {H H' : Hp} {v : V} (h : OddH H v) (s : Same H H') : OddH H' v := by
  rcases h with h | h | h | ⟨p, l, e, h⟩ | ⟨p, l, e, h⟩
  · exact .inl h
  · exact .inr (.inl h)
  · exact .inr (.inr (.inl h))
  · exact .inr (.inr (.inr (.inl ⟨p, l, e, s _ _ h⟩)))
  · exact .inr (.inr (.inr (.inr ⟨p, l, e, s _ _ h⟩)))
def OddF (fs : Fs) (v : V) : Prop := (∃ b, v = .bl b) ∨ v = .non ∨ (∃ s, v = .str s) ∨ (∃ p l, v = .ref p ∧ (p, HO.lst l) ∈ fs) ∨ ∃ p l, v = .ref p ∧ (p, HO.tup l) ∈ fs
theorem OddF.at {H0 H : Hp} {fs : Fs} {v : V} (h : OddF fs v) (k : Kn H0 fs H) : OddH H v := by
  rcases h with h | h | h | ⟨p, l, e, h⟩ | ⟨p, l, e, h⟩
  · exact .inl h
  · exact .inr (.inl h)
  · exact .inr (.inr (.inl h))
  · exact .inr (.inr (.inr (.inl ⟨p, l, e, k.get h⟩)))
  · exact .inr (.inr (.inr (.inr ⟨p, l, e, k.get h⟩)))
theorem OddF.mono {fs fs' : Fs} {v : V} (h : OddF fs v) (hs : ∀ x ∈ fs, x ∈ fs') : OddF fs' v := by
  rcases h with h | h | h | ⟨p, l, e, h⟩ | ⟨p, l, e, h⟩
  · exact .inl h
  · exact .inr (.inl h)
  · exact .inr (.inr (.inl h))
  · exact .inr (.inr (.inr (.inl ⟨p, l, e, hs _ h⟩)))
  · exact .inr (.inr (.inr (.inr ⟨p, l, e, hs _ h⟩)))
end Pa

namespace Pa
open PySem PySem.Spec PyProof.Rows L2

theorem Kn.front {H0 : Hp} : ∀ {fs : Fs} {H : Hp} {i : Nat} {x : Addr × HO}, Kn H0 fs H → fs[i]? = some x → Kn H0 (x :: fs.eraseIdx i) H
  | [], _, _, _, _, h => by simp at h
  | y :: fs, H, 0, x, k, h => by
    have e : y = x := Option.some.inj h
    subst e; exact k
  | y :: fs, H, i + 1, x, ⟨e, H1, s, n, k⟩, h => by
    have h' : fs[i]? = some x := by simpa using h
    have k' := Kn.front k h'
    have k2 : Kn H0 (y :: x :: fs.eraseIdx i) H := ⟨e, H1, s, n, k'⟩
    exact k2.swap

section
variable {σ : St} {H0 : Hp} {fs : Fs} {Φ : CV} {te tl : TE} {tt : TT} {K : PySem.W.Frag}
/-- over range(lo, n): the i-th item is g i -/
theorem W.lcR2z {ta : TA} {j : Nat} {vs : List Nat} {lo n : Int} (g : Nat → Int)
    (h : WA ta σ H0 fs fun us f1 => us = [.int lo, .int n] ∧ (n ≤ 100000 ∧ -100000 ≤ n ∧ lo ≤ 100000 ∧ 0 ≤ lo) ∧
      (∀ x, wipe ((wipe σ vs).set j (some x)) vs = wipe σ vs) ∧
      (∀ (i : Nat) (D : Addr) (acc : List V), lo + (i : Int) < n → W te ((wipe σ vs).set j (some (.int (lo + (i : Int))))) H0 ((D, .lst acc) :: f1) fun v f2 => v = .int (g i) ∧ List.Sublist ((D, .lst acc) :: f1) f2) ∧
      ∀ D, Φ (.ref D) ((D, .lst (zV ((List.range (n - lo).toNat).map g))) :: f1)) : W (tLc (iRng2 ta) (gName j) tYes te vs) σ H0 fs Φ := fun H k Q c =>
  h H k _ fun us f1 H1 k1 ⟨e, hn, hw, hs, hd⟩ => by
    refine ⟨lo, n, e, ⟨by omega, by omega, by omega, by omega⟩, fun D hD => ?_⟩
    refine lc_range (lo := lo) (n := (n - lo).toNat) (fun i H' => Kn H0 ((D, .lst (zV ((List.range i).map g))) :: f1) H') (k1.new hD) (fun i H' hi p => ?_) (fun H' p => c _ _ _ p (hd D))
    refine ⟨hw _, ?_⟩
    show te ((wipe σ vs).set j (some (.int (lo + (i : Int))))) H' _
    refine hs i D _ (by omega) H' p _ fun v f2 H2 k2 ⟨ev, sb⟩ => ?_
    subst ev
    have k3 := k2.sub sb
    refine ⟨_, k3.get (.head _), sz_lt (by rw [zV_length]; simp; omega), ?_⟩
    have k4 := k3.put (i := 0) (o' := .lst (zV ((List.range i).map g) ++ [.int (g i)])) rfl
    show Kn H0 ((D, .lst (zV ((List.range (i + 1)).map g))) :: f1) _
    rw [List.range_succ, List.map_append, ← zV_app]
    exact k4
/-- over a list, with tests, items that may be made anew -/
theorem W.lcG {a : Addr} {xs : List V} {j : Nat} {vs : List Nat} (I : Nat → List V → Fs → Prop)
    (h : W tl σ H0 fs fun v f1 => v = .ref a ∧ Rl K H0 f1 a xs ∧ xs.length ≤ 100000 ∧ I 0 [] f1)
    (hl : ∀ i acc f, I i acc f → Rl K H0 f a xs)
    (hw : ∀ x, wipe ((wipe σ vs).set j (some x)) vs = wipe σ vs)
    (hs : ∀ (i : Nat) (x : V) (D : Addr) (acc : List V) (f : Fs), xs[i]? = some x → I i acc f →
      WT tt ((wipe σ vs).set j (some x)) H0 ((D, .lst acc) :: f) fun b f2 =>
        (b = true → W te ((wipe σ vs).set j (some x)) H0 f2 fun v f3 => ∃ m, f3[m]? = some (D, .lst acc) ∧ I (i + 1) (acc ++ [v]) (f3.eraseIdx m)) ∧
        (b = false → ∃ m, f2[m]? = some (D, .lst acc) ∧ I (i + 1) acc (f2.eraseIdx m)))
    (hd : ∀ D acc f, I xs.length acc f → Φ (.ref D) ((D, .lst acc) :: f)) : W (tLc (iList K tl) (gName j) tt te vs) σ H0 fs Φ := fun H k Q c =>
  h H k _ fun v f1 H1 k1 ⟨e, hr, hn, h0⟩ => by
    refine ⟨a, e, ⟨_, hr H1 k1⟩, fun D hD => ?_⟩
    refine lc_list (K := K) (a := a) (xs := xs) (fun i H' => ∃ acc f, Kn H0 ((D, .lst acc) :: f) H' ∧ I i acc f ∧ acc.length ≤ i) ⟨[], f1, k1.new hD, h0, Nat.le_refl _⟩ (fun i H' _ ⟨acc, f, p, hi, _⟩ => hl i acc f hi H' p.drop) (fun i x H' hx ⟨acc, f, p, hi, hlen⟩ => ?_) (fun H' ⟨acc, f, p, hi, _⟩ => c _ _ _ p (hd D acc f hi))
    obtain ⟨hlt, _⟩ := List.getElem?_eq_some_iff.mp hx
    refine ⟨hw _, ?_⟩
    show tt ((wipe σ vs).set j (some x)) H' _
    refine hs i x D acc f hx hi H' p _ fun b f2 H2 k2 ⟨ht, hf⟩ => ?_
    cases b with
    | true =>
      show te _ _ _
      refine ht rfl H2 k2 _ fun v f3 H3 k3 ⟨m, hm, hI⟩ => ?_
      have k4 := k3.front hm
      refine ⟨acc, k4.get (.head _), sz_lt (by omega), acc ++ [v], f3.eraseIdx m, k4.put (i := 0) rfl, hI, by simp; omega⟩
    | false =>
      obtain ⟨m, hm, hI⟩ := hf rfl
      exact ⟨acc, _, k2.front hm, hI, by omega⟩
/-- .. over a range -/
theorem W.lcRG {ta : TA} {n : Int} {j : Nat} {vs : List Nat} (I : Nat → List V → Fs → Prop)
    (h : WA ta σ H0 fs fun us f1 => us = [.int n] ∧ (n ≤ 100000 ∧ -100000 ≤ n) ∧ I 0 [] f1)
    (hw : ∀ x, wipe ((wipe σ vs).set j (some x)) vs = wipe σ vs)
    (hs : ∀ (i : Nat) (D : Addr) (acc : List V) (f : Fs), (i : Int) < n → I i acc f →
      WT tt ((wipe σ vs).set j (some (.int (i : Int)))) H0 ((D, .lst acc) :: f) fun b f2 =>
        (b = true → W te ((wipe σ vs).set j (some (.int (i : Int)))) H0 f2 fun v f3 => ∃ m, f3[m]? = some (D, .lst acc) ∧ I (i + 1) (acc ++ [v]) (f3.eraseIdx m)) ∧
        (b = false → ∃ m, f2[m]? = some (D, .lst acc) ∧ I (i + 1) acc (f2.eraseIdx m)))
    (hd : ∀ D acc f, I n.toNat acc f → Φ (.ref D) ((D, .lst acc) :: f)) : W (tLc (iRng1 ta) (gName j) tt te vs) σ H0 fs Φ := fun H k Q c =>
  h H k _ fun us f1 H1 k1 ⟨e, hn, h0⟩ => by
    refine ⟨n, e, by omega, by omega, fun D hD => ?_⟩
    refine lc_range (lo := 0) (n := n.toNat) (fun i H' => ∃ acc f, Kn H0 ((D, .lst acc) :: f) H' ∧ I i acc f ∧ acc.length ≤ i) ⟨[], f1, k1.new hD, h0, Nat.le_refl _⟩ (fun i H' hlt ⟨acc, f, p, hi, hlen⟩ => ?_) (fun H' ⟨acc, f, p, hi, _⟩ => c _ _ _ p (hd D acc f hi))
    have e0 : (0 : Int) + (i : Int) = (i : Int) := Int.zero_add _
    refine ⟨hw _, ?_⟩
    show tt ((wipe σ vs).set j (some (.int ((0 : Int) + (i : Int))))) H' _
    rw [e0]
    refine hs i D acc f (by omega) hi H' p _ fun b f2 H2 k2 ⟨ht, hf⟩ => ?_
    cases b with
    | true =>
      show te _ _ _
      refine ht rfl H2 k2 _ fun v f3 H3 k3 ⟨m, hm, hI⟩ => ?_
      have k4 := k3.front hm
      refine ⟨acc, k4.get (.head _), sz_lt (by omega), acc ++ [v], f3.eraseIdx m, k4.put (i := 0) rfl, hI, by simp; omega⟩
    | false =>
      obtain ⟨m, hm, hI⟩ := hf rfl
      exact ⟨acc, _, k2.front hm, hI, by omega⟩
/-- whole numbers that pass a test -/
theorem W.lcZf {ns : List Int} {j : Nat} {vs : List Nat} (p : Int → Bool)
    (h : W tl σ H0 fs fun v f1 => ∃ a, v = .ref a ∧ Rl K H0 f1 a (zV ns) ∧ ns.length ≤ 100000 ∧
      (∀ x, wipe ((wipe σ vs).set j (some x)) vs = wipe σ vs) ∧
      (∀ (x : Int) (D : Addr) (acc : List V), x ∈ ns → WT tt ((wipe σ vs).set j (some (.int x))) H0 ((D, .lst acc) :: f1) fun b f2 => b = p x ∧ f2 = (D, .lst acc) :: f1 ∧ (b = true → W te ((wipe σ vs).set j (some (.int x))) H0 f2 fun v f3 => v = .int x ∧ f3 = f2)) ∧
      ∀ D, Φ (.ref D) ((D, .lst (zV (ns.filter p))) :: f1)) : W (tLc (iList K tl) (gName j) tt te vs) σ H0 fs Φ := fun H k Q c =>
  h H k _ fun v f1 H1 k1 ⟨a, e, hr, hn, hw, hs, hd⟩ => by
    refine ⟨a, e, ⟨_, hr H1 k1⟩, fun D hD => ?_⟩
    refine lc_list (K := K) (a := a) (xs := zV ns) (fun i H' => Kn H0 ((D, .lst (zV ((ns.take i).filter p))) :: f1) H') (k1.new hD) (fun i H' _ p => hr H' p.drop) (fun i x H' hi q => ?_) (fun H' q => ?_)
    · obtain ⟨hl, e1⟩ := List.getElem?_eq_some_iff.mp hi
      rw [zV_length] at hl
      have e2 : x = .int ns[i] := by
        have := zV_get (ns := ns) (i := i) (x := ns[i]) (List.getElem?_eq_getElem hl)
        rw [hi] at this
        exact Option.some.inj this
      subst e2
      refine ⟨hw _, ?_⟩
      show tt ((wipe σ vs).set j (some (.int ns[i]))) H' _
      have hlen : ((ns.take i).filter p).length ≤ i := Nat.le_trans (List.length_filter_le _ _) (by rw [List.length_take]; omega)
      refine hs ns[i] D _ (List.getElem_mem hl) H' q _ fun b f2 H2 k2 ⟨eb, ef, ht⟩ => ?_
      subst eb ef
      have et : ns.take (i + 1) = ns.take i ++ [ns[i]] := by
        rw [List.take_add_one, List.getElem?_eq_getElem hl]; rfl
      cases hb : p ns[i] with
      | true =>
        show te _ _ _
        refine ht hb H2 k2 _ fun v f3 H3 k3 ⟨ev, ef⟩ => ?_
        subst ev ef
        refine ⟨_, k3.get (.head _), sz_lt (by rw [zV_length]; omega), ?_⟩
        have k4 := k3.put (i := 0) (o' := .lst (zV ((ns.take i).filter p) ++ [.int ns[i]])) rfl
        rw [et, List.filter_append, List.filter_cons_of_pos hb, ← zV_app]
        exact k4
      | false =>
        show Kn H0 ((D, .lst (zV ((ns.take (i + 1)).filter p))) :: f1) H2
        rw [et, List.filter_append, List.filter_cons_of_neg (by rw [hb]; exact Bool.false_ne_true), List.filter_nil, List.append_nil]
        exact k2
    · rw [zV_length, List.take_length] at q
      exact c _ _ _ q (hd D)
end
end Pa
namespace Pa
open PySem PySem.Spec PyProof.Rows L2
theorem ix_listK {X : Cx} {K : PySem.W.Frag} (h : X.K = K) : IxR X (rIxL K) := by subst h; exact ix_list
theorem ix_tupK {X : Cx} {K : PySem.W.Frag} (h : X.K = K) : IxR X (rIxT K) := by subst h; exact ix_tup
theorem N.swap {e : St → Hp → Prop} {σ : St} {H0 : Hp} {x y : Addr × HO} {fs : Fs} (h : N e σ H0 (y :: x :: fs)) : N e σ H0 (x :: y :: fs) := fun H k => h H k.swap
/-! ### is None -/
def rIsNon : R2 := fun x y H Q => y = .non ∧ Q (.bl (decide (x = .non))) H
def rNotNon : R2 := fun x y H Q => y = .non ∧ Q (.bl (!decide (x = .non))) H
theorem op_isNo {X : Cx} : OpR X (compareOp .Is) rIsNon := op_isN
theorem op_notNo {X : Cx} : OpR X (compareOp .IsNot) rNotNon := op_notN
section
variable {H0 : Hp} {fs : Fs} {Φ : CV} {p : Addr}
theorem RW.isNoR (q : Φ (.bl false) fs) : RW rIsNon (.ref p) .non H0 fs Φ := fun H k _ c => ⟨rfl, c _ fs H k q⟩
theorem RW.isNoN (q : Φ (.bl true) fs) : RW rIsNon .non .non H0 fs Φ := fun H k _ c => ⟨rfl, c _ fs H k q⟩
theorem RW.notNoR (q : Φ (.bl true) fs) : RW rNotNon (.ref p) .non H0 fs Φ := fun H k _ c => ⟨rfl, c _ fs H k q⟩
theorem RW.notNoN (q : Φ (.bl false) fs) : RW rNotNon .non .non H0 fs Φ := fun H k _ c => ⟨rfl, c _ fs H k q⟩
end
end Pa

namespace Pa

/-! ### rows of numbers without end, as a ring -/
def Ser : Type := Nat → Int
namespace Ser
@[ext] theorem ext {f g : Ser} (h : ∀ n, f n = g n) : f = g := funext h
def tail (f : Ser) : Ser := fun n => f (n + 1)
def sm (a : Int) (f : Ser) : Ser := fun n => a * f n
def mulC (f g : Ser) : Nat → Int
  | 0 => f 0 * g 0
  | n + 1 => f 0 * g (n + 1) + mulC (tail f) g n
def mul (f g : Ser) : Ser := fun n => mulC f g n
def C (a : Int) : Ser := fun n => if n = 0 then a else 0
instance : Zero Ser := ⟨C 0⟩
instance : One Ser := ⟨C 1⟩
instance : Add Ser := ⟨fun f g n => f n + g n⟩
instance : Neg Ser := ⟨fun f n => -f n⟩
instance : Sub Ser := ⟨fun f g n => f n - g n⟩
instance : Mul Ser := ⟨mul⟩
instance : NatCast Ser := ⟨fun n => C n⟩
instance : IntCast Ser := ⟨fun n => C n⟩
instance : SMul Nat Ser := ⟨fun k f => sm (k : Int) f⟩
instance : SMul Int Ser := ⟨fun k f => sm k f⟩
instance (n : Nat) : OfNat Ser n := ⟨C n⟩
def npow (f : Ser) : Nat → Ser
  | 0 => 1
  | n + 1 => npow f n * f
instance : HPow Ser Nat Ser := ⟨npow⟩
theorem C_zero (a : Int) : C a 0 = a := rfl
theorem C_succ (a : Int) (n : Nat) : C a (n + 1) = 0 := rfl
theorem zero_at (n : Nat) : (0 : Ser) n = 0 := by
  cases n with
  | zero => rfl
  | succ n => rfl
theorem add_at (f g : Ser) (n : Nat) : (f + g) n = f n + g n := rfl
theorem neg_at (f : Ser) (n : Nat) : (-f) n = -f n := rfl
theorem sub_at (f g : Ser) (n : Nat) : (f - g) n = f n - g n := rfl
theorem sm_at (a : Int) (f : Ser) (n : Nat) : (sm a f) n = a * f n := rfl
theorem tail_at (f : Ser) (n : Nat) : tail f n = f (n + 1) := rfl
theorem mul_zero_at (f g : Ser) : (f * g) 0 = f 0 * g 0 := rfl
theorem mul_succ_at (f g : Ser) (n : Nat) : (f * g) (n + 1) = f 0 * g (n + 1) + (tail f * g) n := rfl
theorem tail_add (f g : Ser) : tail (f + g) = tail f + tail g := rfl
theorem tail_sm (a : Int) (f : Ser) : tail (sm a f) = sm a (tail f) := rfl
theorem tail_mul (f g : Ser) : tail (f * g) = sm (f 0) (tail g) + tail f * g := rfl
theorem tail_C (a : Int) : tail (C a) = 0 := ext fun n => by rw [zero_at]; rfl
theorem tail_zero : tail 0 = 0 := tail_C 0
theorem zero_mul_at (g : Ser) (n : Nat) : ((0 : Ser) * g) n = 0 := by
  induction n with
  | zero => rw [mul_zero_at, zero_at, Int.zero_mul]
  | succ n ih => rw [mul_succ_at, zero_at, Int.zero_mul, tail_zero, ih]; rfl
theorem add_mul_at (f g h : Ser) (n : Nat) : ((f + g) * h) n = (f * h) n + (g * h) n := by
  induction n generalizing f g with
  | zero => rw [mul_zero_at, mul_zero_at, mul_zero_at, add_at, Int.add_mul]
  | succ n ih => rw [mul_succ_at, mul_succ_at, mul_succ_at, tail_add, ih, add_at, Int.add_mul]; omega
theorem sm_mul_at (a : Int) (f h : Ser) (n : Nat) : (sm a f * h) n = a * (f * h) n := by
  induction n generalizing f with
  | zero => rw [mul_zero_at, mul_zero_at, sm_at, Int.mul_assoc]
  | succ n ih => rw [mul_succ_at, mul_succ_at, tail_sm, ih, sm_at, Int.mul_assoc, Int.mul_add]
/-- the other recursion -/
theorem mul_succ_at' (f g : Ser) (n : Nat) : (f * g) (n + 1) = (f * tail g) n + f (n + 1) * g 0 := by
  induction n generalizing f with
  | zero => rw [mul_succ_at, mul_zero_at, mul_zero_at]; rfl
  | succ n ih =>
    rw [mul_succ_at, ih (tail f), mul_succ_at f (tail g), tail_at, tail_at]
    omega
theorem mul_comm_at (f g : Ser) (n : Nat) : (f * g) n = (g * f) n := by
  induction n generalizing f g with
  | zero => rw [mul_zero_at, mul_zero_at]; exact Int.mul_comm _ _
  | succ n ih =>
    rw [mul_succ_at' g f, ← ih (tail f) g, mul_succ_at, Int.mul_comm (f 0), Int.add_comm]
theorem mul_comm' (f g : Ser) : f * g = g * f := ext fun n => mul_comm_at f g n
theorem mul_assoc' (f g h : Ser) : f * g * h = f * (g * h) := by
  refine ext fun n => ?_
  induction n generalizing f with
  | zero => rw [mul_zero_at, mul_zero_at, mul_zero_at, mul_zero_at, Int.mul_assoc]
  | succ n ih =>
    rw [mul_succ_at, tail_mul, add_mul_at, sm_mul_at, ih (tail f), mul_succ_at f, mul_succ_at g, mul_zero_at, Int.mul_add, Int.mul_assoc]
    omega
theorem C_mul (a : Int) (f : Ser) (n : Nat) : (C a * f) n = a * f n := by
  cases n with
  | zero => rfl
  | succ n => rw [mul_succ_at, C_zero, tail_C, zero_mul_at, Int.add_zero]
theorem one_mul' (f : Ser) : 1 * f = f := ext fun n => by
  show (C 1 * f) n = f n
  rw [C_mul, Int.one_mul]
theorem one_eq : (1 : Ser) = C 1 := rfl
theorem zero_eq : (0 : Ser) = C 0 := rfl
theorem C_add (a b : Int) : C (a + b) = C a + C b := ext fun n => by
  cases n with
  | zero => rfl
  | succ n => rfl
theorem C_neg (a : Int) : C (-a) = -C a := ext fun n => by
  cases n with
  | zero => rfl
  | succ n => rfl
theorem C_sub (a b : Int) : C (a - b) = C a - C b := ext fun n => by
  cases n with
  | zero => rfl
  | succ n => rfl
theorem C_mulC (a b : Int) : C (a * b) = C a * C b := ext fun n => by
  rw [C_mul]
  cases n with
  | zero => rfl
  | succ n => rw [C_succ, C_succ, Int.mul_zero]
theorem C_inj {a b : Int} (h : C a = C b) : a = b := congrFun h 0
theorem sm_eq (a : Int) (f : Ser) : sm a f = C a * f := ext fun n => (C_mul a f n).symm
instance : Lean.Grind.CommRing Ser where
  add_zero f := ext fun n => by rw [add_at, zero_at, Int.add_zero]
  add_comm f g := ext fun n => Int.add_comm _ _
  add_assoc f g h := ext fun n => Int.add_assoc _ _ _
  mul_assoc := mul_assoc'
  mul_one f := by rw [mul_comm']; exact one_mul' f
  one_mul := one_mul'
  left_distrib f g h := by
    rw [mul_comm', mul_comm' f g, mul_comm' f h]
    exact ext fun n => add_mul_at g h f n
  right_distrib f g h := ext fun n => add_mul_at f g h n
  zero_mul f := ext fun n => by rw [zero_at, zero_mul_at]
  mul_zero f := by
    rw [mul_comm']
    exact ext fun n => by rw [zero_at, zero_mul_at]
  pow_zero f := rfl
  pow_succ f n := rfl
  nsmul_eq_natCast_mul k f := sm_eq k f
  ofNat_succ k := by
    show C ((k + 1 : Nat) : Int) = C (k : Int) + C 1
    rw [← C_add]; rfl
  ofNat_eq_natCast k := rfl
  neg_add_cancel f := ext fun n => by rw [add_at, neg_at, zero_at, Int.add_left_neg]
  sub_eq_add_neg f g := ext fun n => rfl
  neg_zsmul i f := ext fun n => Int.neg_mul _ _
  zsmul_natCast_eq_nsmul k f := rfl
  intCast_ofNat k := rfl
  intCast_neg k := C_neg k
  mul_comm := mul_comm'

example (a b : Ser) : (a + b) * (a - b) = a * a - b * b := by grind
example (a b c d : Ser) (h : a * b = c) (h2 : c = d * a) : a * b * b = d * a * b := by grind
end Ser
end Pa

namespace Pa
open Ser

/-! ### rows as series -/
def S (xs : List Int) : Ser := fun i => xs.getD i 0
theorem S_at (xs : List Int) (i : Nat) : S xs i = xs.getD i 0 := rfl
theorem S_out {xs : List Int} {i : Nat} (h : xs.length ≤ i) : S xs i = 0 := by
  rw [S_at, List.getD_eq_getElem?_getD, List.getElem?_eq_none h]; rfl
theorem S_nil : S [] = 0 := Ser.ext fun n => by rw [S_at, zero_at]; rfl
theorem getD_app_zeros (xs : List Int) (k i : Nat) : (xs ++ List.replicate k 0).getD i 0 = xs.getD i 0 := by
  rw [List.getD_eq_getElem?_getD, List.getD_eq_getElem?_getD, List.getElem?_append]
  split
  · rfl
  · rename_i h
    rw [List.getElem?_eq_none (by omega : xs.length ≤ i), List.getElem?_replicate]
    split <;> rfl
theorem S_trim (xs : List Int) : S (trim xs) = S xs := Ser.ext fun n => by
  obtain ⟨k, e, _⟩ := trim_cases xs
  rw [S_at, S_at]
  conv => rhs; rw [e]
  rw [getD_app_zeros]
theorem getD_map_range (n : Nat) (f : Nat → Int) (i : Nat) : ((List.range n).map f).getD i 0 = if i < n then f i else 0 := by
  rw [List.getD_eq_getElem?_getD, List.getElem?_map]
  by_cases h : i < n
  · rw [if_pos h, List.getElem?_range h]; rfl
  · rw [if_neg h, List.getElem?_eq_none (by simp; omega)]; rfl
theorem S_plus (xs ys : List Int) : S (plus xs ys) = S xs + S ys := by
  unfold plus
  rw [S_trim]
  refine Ser.ext fun n => ?_
  rw [S_at, getD_map_range, add_at]
  split
  · rw [gat_nat, gat_nat]; rfl
  · rw [S_out (by omega), S_out (by omega)]; rfl
theorem S_minus (xs ys : List Int) : S (minus xs ys) = S xs - S ys := by
  unfold minus
  rw [S_trim]
  refine Ser.ext fun n => ?_
  rw [S_at, getD_map_range, sub_at]
  split
  · rw [gat_nat, gat_nat]; rfl
  · rw [S_out (by omega), S_out (by omega)]; rfl
theorem S_map_mul (xs : List Int) (m : Int) : S (xs.map fun x => m * x) = C m * S xs := Ser.ext fun n => by
  rw [S_at, C_mul, S_at, List.getD_eq_getElem?_getD, List.getD_eq_getElem?_getD, List.getElem?_map]
  cases xs[n]? with
  | none => exact (Int.mul_zero m).symm
  | some x => rfl
theorem S_scaled (xs : List Int) (m : Int) : S (scaled xs m) = C m * S xs := by
  unfold scaled
  rw [S_trim, S_map_mul]
/-- the letter -/
def X : Ser := fun n => if n = 1 then 1 else 0
theorem tail_X : tail X = 1 := Ser.ext fun n => by
  cases n with
  | zero => rfl
  | succ n => rfl
theorem X_mul_zero (f : Ser) : (X * f) 0 = 0 := by rw [mul_zero_at]; exact Int.zero_mul _
theorem X_mul_succ (f : Ser) (n : Nat) : (X * f) (n + 1) = f n := by
  rw [mul_succ_at, tail_X, one_mul', show X 0 = 0 from rfl, Int.zero_mul, Int.zero_add]
theorem S_cons (a : Int) (r : List Int) : S (a :: r) = C a + X * S r := Ser.ext fun n => by
  cases n with
  | zero => rw [add_at, X_mul_zero]; exact (Int.add_zero a).symm
  | succ n => rw [add_at, X_mul_succ, C_succ, Int.zero_add]; rfl
theorem S_one (a : Int) : S [a] = C a := by
  rw [S_cons, S_nil]; grind
theorem X_pow_mul (j : Nat) (f : Ser) (i : Nat) : (X ^ j * f) i = if j ≤ i then f (i - j) else 0 := by
  induction j generalizing i with
  | zero =>
    have : X ^ 0 * f = f := by grind
    rw [this, if_pos (Nat.zero_le _)]; rfl
  | succ j ih =>
    have : X ^ (j + 1) * f = X * (X ^ j * f) := by grind
    rw [this]
    cases i with
    | zero => rw [X_mul_zero, if_neg (by omega)]
    | succ i =>
      rw [X_mul_succ, ih]
      by_cases h : j ≤ i
      · rw [if_pos h, if_pos (by omega), Nat.add_sub_add_right]
      · rw [if_neg h, if_neg (by omega)]
theorem S_app (xs ys : List Int) : S (xs ++ ys) = S xs + X ^ xs.length * S ys := by
  induction xs with
  | nil =>
    show S ys = S [] + X ^ 0 * S ys
    rw [S_nil]; grind
  | cons a r ih =>
    rw [List.cons_append, S_cons, ih, S_cons, List.length_cons]
    grind
theorem S_snoc (xs : List Int) (a : Int) : S (xs ++ [a]) = S xs + C a * X ^ xs.length := by
  rw [S_app, S_one]; grind
theorem S_take_succ {xs : List Int} {n : Nat} (h : n < xs.length) : S (xs.take (n + 1)) = S (xs.take n) + C (xs.getD n 0) * X ^ n := by
  rw [take_succ_getD h, S_snoc, List.length_take, Nat.min_eq_left (Nat.le_of_lt h)]

theorem S_set {acc : List Int} {i : Nat} (h : i < acc.length) (v : Int) : S (acc.set i (acc.getD i 0 + v)) = S acc + C v * X ^ i := Ser.ext fun n => by
  rw [S_at, getD_set, add_at, C_mul]
  have e : (X ^ i : Ser) = X ^ i * 1 := by grind
  rw [e, X_pow_mul]
  by_cases hn : i = n
  · subst hn
    rw [if_pos rfl, if_pos h, if_pos (Nat.le_refl _), Nat.sub_self]
    show _ = _ + v * 1
    rw [Int.mul_one]; rfl
  · rw [if_neg hn]
    by_cases hl : i ≤ n
    · rw [if_pos hl]
      obtain ⟨k, hk⟩ : ∃ k, n - i = k + 1 := ⟨n - i - 1, by omega⟩
      rw [hk]
      show _ = _ + v * 0
      rw [Int.mul_zero, Int.add_zero]; rfl
    · rw [if_neg hl, Int.mul_zero, Int.add_zero]; rfl
theorem S_row {x : Int} {ys : List Int} {j : Nat} {acc : List Int} : ∀ n : Nat, n ≤ ys.length → j + n ≤ acc.length → S (lp (tmIn x ys j) n acc) = S acc + C x * X ^ j * S (ys.take n)
  | 0, _, _ => by
    show S acc = _
    rw [List.take_zero, S_nil]; grind
  | n + 1, h1, h2 => by
    have ih := S_row (x := x) (ys := ys) (j := j) (acc := acc) n (by omega) (by omega)
    show S ((lp (tmIn x ys j) n acc).set (j + n) ((lp (tmIn x ys j) n acc).getD (j + n) 0 + x * ys.getD n 0)) = _
    rw [S_set (by rw [lp_len (fun i a => tmIn_len _ _ _ _ _)]; omega), ih, S_take_succ (by omega), C_mulC]
    have e : (X ^ (j + n) : Ser) = X ^ j * X ^ n := by grind
    rw [e]
    grind
theorem S_zeros (n : Nat) : S (List.replicate n 0) = 0 := Ser.ext fun i => by rw [S_at, getD_replicate, zero_at]
theorem S_raw {xs ys : List Int} : ∀ n : Nat, n ≤ xs.length → S (lp (tmRow xs ys) n (List.replicate (xs.length + ys.length) 0)) = S (xs.take n) * S ys
  | 0, _ => by
    show S (List.replicate (xs.length + ys.length) 0) = _
    rw [S_zeros, List.take_zero, S_nil]; grind
  | n + 1, h => by
    have ih := S_raw (xs := xs) (ys := ys) n (by omega)
    show S (lp (tmIn (xs.getD n 0) ys n) ys.length _) = _
    rw [S_row ys.length (Nat.le_refl _) (by rw [lp_len (fun i a => tmRow_len _ _ _ _), List.length_replicate]; omega), ih, S_take_succ (by omega), List.take_length]
    grind
theorem S_tm (xs ys : List Int) : S (tm xs ys) = S xs * S ys := by
  unfold tm
  rw [S_trim]
  unfold tmRaw
  rw [S_raw xs.length (Nat.le_refl _), List.take_length]
theorem S_pw (xs : List Int) : ∀ n : Nat, S (pw xs n) = S xs ^ n
  | 0 => by
    show S [1] = _
    rw [S_one, ← one_eq]; grind
  | n + 1 => by
    show S (tm (pw xs n) xs) = _
    rw [S_tm, S_pw xs n]; grind
/-- trimmed rows are told by their series -/
theorem S_inj {xs ys : List Int} (hx : Tr xs) (hy : Tr ys) (h : S xs = S ys) : xs = ys := by
  have key : ∀ {xs ys : List Int}, Tr xs → S xs = S ys → xs.length ≤ ys.length := fun {xs ys} hx h => by
    rcases snoc_cases xs with rfl | ⟨zs, z, rfl⟩
    · exact Nat.zero_le _
    · refine Nat.le_of_not_lt fun hl => ?_
      rw [List.length_append, List.length_singleton] at hl
      have hz := tr_last hx (by simp)
      rw [List.getLast_append] at hz
      have e := congrFun h zs.length
      rw [S_out (xs := ys) (by omega), S_at, List.getD_eq_getElem?_getD] at e
      simp at e hz
      exact hz e
  have l1 := key hx h
  have l2 := key hy h.symm
  refine List.ext_getElem (Nat.le_antisymm l1 l2) fun i h1 h2 => ?_
  have e := congrFun h i
  rw [S_at, S_at, List.getD_eq_getElem?_getD, List.getD_eq_getElem?_getD, List.getElem?_eq_getElem h1, List.getElem?_eq_getElem h2] at e
  exact e
theorem tm_comm (xs ys : List Int) : tm xs ys = tm ys xs := S_inj (tm_tr _ _) (tm_tr _ _) (by rw [S_tm, S_tm]; grind)
theorem plus_tr (xs ys : List Int) : Tr (plus xs ys) := tr_trim _
theorem minus_tr (xs ys : List Int) : Tr (minus xs ys) := tr_trim _
theorem scaled_tr (xs : List Int) (m : Int) : Tr (scaled xs m) := tr_trim _
theorem S_zero_nil {xs : List Int} (hx : Tr xs) (h : S xs = 0) : xs = [] := S_inj hx tr_nil (by rw [h, S_nil])

/-! ### one in the other's letter -/
def pin (ys : List Int) : List Int → List Int
  | [] => []
  | a :: r => plus (tm (pin ys r) ys) [a]
def sub (G : Ser) : List Int → Ser
  | [] => 0
  | a :: r => C a + sub G r * G
theorem S_pin (ys : List Int) : ∀ xs : List Int, S (pin ys xs) = sub (S ys) xs
  | [] => S_nil
  | a :: r => by
    show S (plus (tm (pin ys r) ys) [a]) = C a + sub (S ys) r * S ys
    rw [S_plus, S_tm, S_one, S_pin ys r]; grind
theorem sub_snoc (G : Ser) (xs : List Int) (a : Int) : sub G (xs ++ [a]) = sub G xs + C a * G ^ xs.length := by
  induction xs with
  | nil =>
    show C a + 0 * G = 0 + C a * G ^ 0
    grind
  | cons b r ih =>
    show C b + sub G (r ++ [a]) * G = C b + sub G r * G + C a * G ^ (r.length + 1)
    rw [ih]; grind
theorem pin_tr (ys : List Int) : ∀ xs : List Int, Tr (pin ys xs)
  | [] => tr_nil
  | a :: r => plus_tr _ _
theorem pin_len (ys : List Int) : ∀ xs : List Int, (pin ys xs).length ≤ xs.length * (ys.length + 1)
  | [] => Nat.zero_le _
  | a :: r => by
    have ih := pin_len ys r
    have h1 := plus_len (tm (pin ys r) ys) [a]
    have h2 := tm_len (pin ys r) ys
    show (plus (tm (pin ys r) ys) [a]).length ≤ (r.length + 1) * (ys.length + 1)
    rw [Nat.succ_mul]
    simp only [List.length_singleton] at h1
    omega
theorem pin_bd {ys : List Int} {a b c : Nat} (hy : BdL b ys) : ∀ xs : List Int, BdL a xs → xs.length * (ys.length + 1) ≤ 2 ^ c → BdL (a + xs.length * (b + c + 1)) (pin ys xs)
  | [], _, _ => BdL.nil
  | x :: r, hx, hl => by
    have hl' : (r.length + 1) * (ys.length + 1) ≤ 2 ^ c := hl
    rw [Nat.succ_mul] at hl'
    have ih := pin_bd (a := a) (c := c) hy r (fun y h => hx y (List.mem_cons_of_mem _ h)) (by omega)
    have h1 := tm_bd (c := c) ih hy (by have := pin_len ys r; omega)
    have h2 : BdL a [x] := fun y h => hx y (by rw [List.mem_singleton.mp h]; exact List.mem_cons_self)
    have h3 := plus_bd h1 (h2.mono (show a ≤ a + r.length * (b + c + 1) + b + c by omega))
    refine h3.mono ?_
    show _ ≤ a + (r.length + 1) * (b + c + 1)
    rw [Nat.succ_mul]; omega
/-! ### the law's own way of adding up -/
def due (ys : List Int) : Nat → List Int → List Int × List Int
  | 0, _ => ([], [1])
  | n + 1, xs => (plus (due ys n xs).1 (tm [xs.getD n 0] (due ys n xs).2), tm (due ys n xs).2 ys)
theorem due_pw (ys : List Int) (xs : List Int) : ∀ n, (due ys n xs).2 = pw ys n
  | 0 => rfl
  | n + 1 => by
    show tm (due ys n xs).2 ys = tm (pw ys n) ys
    rw [due_pw]
theorem S_due (ys xs : List Int) : ∀ n, n ≤ xs.length → S (due ys n xs).1 = sub (S ys) (xs.take n)
  | 0, _ => by rw [List.take_zero]; exact S_nil
  | n + 1, h => by
    show S (plus (due ys n xs).1 (tm [xs.getD n 0] (due ys n xs).2)) = _
    rw [S_plus, S_tm, S_one, due_pw, S_pw, S_due ys xs n (by omega), take_succ_getD (by omega), sub_snoc, List.length_take, Nat.min_eq_left (by omega)]
theorem due_tr (ys xs : List Int) (n : Nat) : Tr (due ys n xs).1 := by
  cases n with
  | zero => exact tr_nil
  | succ n => exact plus_tr _ _
theorem due_eq (ys xs : List Int) : (due ys xs.length xs).1 = pin ys xs := S_inj (due_tr _ _ _) (pin_tr _ _) (by rw [S_due _ _ _ (Nat.le_refl _), List.take_length, S_pin])
end Pa

namespace Pa
open Ser

/-! ### what divides all numbers of a row -/
def cont : List Int → Nat
  | [] => 0
  | a :: r => Nat.gcd a.natAbs (cont r)
theorem cont_app (xs ys : List Int) : cont (xs ++ ys) = Nat.gcd (cont xs) (cont ys) := by
  induction xs with
  | nil => exact (Nat.gcd_zero_left _).symm
  | cons a r ih =>
    show Nat.gcd a.natAbs (cont (r ++ ys)) = Nat.gcd (Nat.gcd a.natAbs (cont r)) (cont ys)
    rw [ih, Nat.gcd_assoc]
theorem cont_snoc (xs : List Int) (x : Int) : cont (xs ++ [x]) = Nat.gcd (cont xs) x.natAbs := by
  rw [cont_app]
  show Nat.gcd _ (Nat.gcd x.natAbs 0) = _
  rw [Nat.gcd_zero_right]
theorem cont_dvd {xs : List Int} {x : Int} (h : x ∈ xs) : (cont xs : Int) ∣ x := by
  refine Int.ofNat_dvd_left.mpr ?_
  induction xs with
  | nil => exact absurd h List.not_mem_nil
  | cons a r ih =>
    rcases List.mem_cons.mp h with rfl | h
    · exact Nat.gcd_dvd_left _ _
    · exact Nat.dvd_trans (Nat.gcd_dvd_right _ _) (ih h)
theorem dvd_cont {xs : List Int} {d : Nat} (h : ∀ x ∈ xs, (d : Int) ∣ x) : d ∣ cont xs := by
  induction xs with
  | nil => exact Nat.dvd_zero d
  | cons a r ih => exact Nat.dvd_gcd (Int.ofNat_dvd_left.mp (h a List.mem_cons_self)) (ih fun x hx => h x (List.mem_cons_of_mem _ hx))
theorem cont_zero {xs : List Int} (h : cont xs = 0) : ∀ x ∈ xs, x = 0 := fun x hx => by
  have := cont_dvd hx
  rw [h] at this
  exact Int.zero_dvd.mp this
theorem cont_pos {xs : List Int} (ht : Tr xs) (hne : xs ≠ []) : 0 < cont xs :=
  Nat.pos_of_ne_zero fun z => tr_last ht hne (cont_zero z _ (List.getLast_mem hne))
theorem cont_le {xs : List Int} {x : Int} (h : x ∈ xs) (h0 : x ≠ 0) : cont xs ≤ x.natAbs :=
  Nat.le_of_dvd (Int.natAbs_pos.mpr h0) (Int.ofNat_dvd_left.mp (cont_dvd h))
theorem cont_bd {b : Nat} {xs : List Int} (h : BdL b xs) : cont xs < 2 ^ b := by
  induction xs with
  | nil => exact Nat.two_pow_pos b
  | cons a r ih =>
    by_cases h0 : a = 0
    · subst h0
      show Nat.gcd 0 (cont r) < _
      rw [Nat.gcd_zero_left]
      exact ih fun x hx => h x (List.mem_cons_of_mem _ hx)
    · exact Nat.lt_of_le_of_lt (cont_le List.mem_cons_self h0) (h a List.mem_cons_self)
/-- its sign as the last number's -/
def sgc (xs : List Int) : Int := if xs.getLast?.getD 0 < 0 then -(cont xs : Int) else (cont xs : Int)
theorem sgc_abs (xs : List Int) : (sgc xs).natAbs = cont xs := by
  unfold sgc
  split <;> simp
theorem sgc_ne {xs : List Int} (ht : Tr xs) (hne : xs ≠ []) : sgc xs ≠ 0 := fun h => by
  have := sgc_abs xs
  rw [h] at this
  exact absurd this (Nat.ne_of_lt (cont_pos ht hne))
theorem sgc_dvd {xs : List Int} {x : Int} (h : x ∈ xs) : sgc xs ∣ x := by
  unfold sgc
  split
  · exact Int.neg_dvd.mpr (cont_dvd h)
  · exact cont_dvd h
def divBy (xs : List Int) (c : Int) : List Int := xs.map fun x => x.fdiv c
def simp' (xs : List Int) : List Int := divBy xs (sgc xs)
theorem fdiv_of_dvd {x c : Int} (hc : c ≠ 0) (h : c ∣ x) : c * x.fdiv c = x := by
  obtain ⟨k, rfl⟩ := h
  rw [Int.mul_fdiv_cancel_left k hc]
theorem divBy_map {xs : List Int} {c : Int} (hc : c ≠ 0) (h : ∀ x ∈ xs, c ∣ x) : (divBy xs c).map (fun x => c * x) = xs := by
  unfold divBy
  rw [List.map_map]
  conv => rhs; rw [← List.map_id xs]
  exact List.map_congr_left fun x hx => fdiv_of_dvd hc (h x hx)
theorem S_divBy {xs : List Int} {c : Int} (hc : c ≠ 0) (h : ∀ x ∈ xs, c ∣ x) : C c * S (divBy xs c) = S xs := by
  rw [← S_map_mul, divBy_map hc h]
theorem divBy_tr {xs : List Int} {c : Int} (hc : c ≠ 0) (h : ∀ x ∈ xs, c ∣ x) (ht : Tr xs) : Tr (divBy xs c) := by
  rcases snoc_cases xs with rfl | ⟨ys, y, rfl⟩
  · exact tr_nil
  · have hy : y ≠ 0 := by
      have := tr_last ht (by simp)
      simpa using this
    unfold divBy
    rw [List.map_append]
    refine tr_of_last fun z => hy ?_
    have z' : y.fdiv c = 0 := z
    rw [← fdiv_of_dvd hc (h y (by simp)), z', Int.mul_zero]
theorem divBy_len (xs : List Int) (c : Int) : (divBy xs c).length = xs.length := List.length_map _
theorem divBy_bd {b : Nat} {xs : List Int} {c : Int} (hc : c ≠ 0) (h : ∀ x ∈ xs, c ∣ x) (hb : BdL b xs) : BdL b (divBy xs c) := fun y hy => by
  obtain ⟨x, hx, rfl⟩ := List.mem_map.mp hy
  have e := fdiv_of_dvd hc (h x hx)
  refine Nat.lt_of_le_of_lt ?_ (hb x hx)
  rw [← e, Int.natAbs_mul, e]
  exact Nat.le_mul_of_pos_left _ (Int.natAbs_pos.mpr hc)
theorem cont_map_mul (xs : List Int) (c : Int) : cont (xs.map fun x => c * x) = c.natAbs * cont xs := by
  induction xs with
  | nil => rfl
  | cons a r ih =>
    show Nat.gcd (c * a).natAbs (cont (r.map fun x => c * x)) = c.natAbs * Nat.gcd a.natAbs (cont r)
    rw [ih, Int.natAbs_mul, Nat.gcd_mul_left]
theorem cont_divBy {xs : List Int} {c : Int} (hc : c ≠ 0) (h : ∀ x ∈ xs, c ∣ x) : c.natAbs * cont (divBy xs c) = cont xs := by
  rw [← cont_map_mul, divBy_map hc h]
theorem simp_nil : simp' [] = [] := rfl
theorem simp_tr {xs : List Int} (ht : Tr xs) : Tr (simp' xs) := by
  by_cases hne : xs = []
  · subst hne; exact tr_nil
  · exact divBy_tr (sgc_ne ht hne) (fun x hx => sgc_dvd hx) ht
theorem simp_cont {xs : List Int} (ht : Tr xs) (hne : xs ≠ []) : cont (simp' xs) = 1 := by
  have e := cont_divBy (sgc_ne ht hne) fun x hx => sgc_dvd (xs := xs) hx
  rw [sgc_abs] at e
  exact Nat.eq_of_mul_eq_mul_left (cont_pos ht hne) (by rw [Nat.mul_one]; exact e)
theorem S_simp {xs : List Int} (ht : Tr xs) : C (sgc xs) * S (simp' xs) = S xs := by
  by_cases hne : xs = []
  · subst hne
    show C 0 * S [] = S []
    rw [S_nil]; grind
  · exact S_divBy (sgc_ne ht hne) fun x hx => sgc_dvd hx
theorem simp_len (xs : List Int) : (simp' xs).length = xs.length := divBy_len _ _
theorem simp_bd {b : Nat} {xs : List Int} (ht : Tr xs) (hb : BdL b xs) : BdL b (simp' xs) := by
  by_cases hne : xs = []
  · subst hne; exact hb
  · exact divBy_bd (sgc_ne ht hne) (fun x hx => sgc_dvd hx) hb
theorem simp_ne {xs : List Int} (hne : xs ≠ []) : simp' xs ≠ [] := fun z => hne (List.length_eq_zero_iff.mp (by rw [← simp_len, z]; rfl))
/-- its last number is above nought -/
theorem simp_last {xs : List Int} (ht : Tr xs) (hne : xs ≠ []) : 0 < (simp' xs).getLast (simp_ne hne) := by
  rcases snoc_cases xs with rfl | ⟨ys, y, rfl⟩
  · exact absurd rfl hne
  · have hy : y ≠ 0 := by simpa using tr_last ht hne
    have e1 : (simp' (ys ++ [y])).getLast (simp_ne hne) = y.fdiv (sgc (ys ++ [y])) := by
      unfold simp' divBy
      simp only [List.map_append, List.map_cons, List.map_nil, List.getLast_append]
      simp
    have hp := cont_pos ht hne
    have hd : (cont (ys ++ [y]) : Int) ∣ y := cont_dvd (by simp)
    rw [e1]
    unfold sgc
    have e2 : (ys ++ [y]).getLast?.getD 0 = y := by simp
    rw [e2]
    obtain ⟨k, hk⟩ := hd
    generalize cont (ys ++ [y]) = c at hp hk
    have hc : (0 : Int) < (c : Int) := by omega
    subst hk
    split
    · rename_i hneg
      have e3 : (c : Int) * k = -(c : Int) * -k := (Int.neg_mul_neg _ _).symm
      rw [e3, Int.mul_fdiv_cancel_left _ (by omega)]
      have := Int.neg_of_mul_neg_right (a := (c : Int)) (b := k)
      have hk : k < 0 := by
        refine Int.not_le.mp fun hk => ?_
        have := Int.mul_nonneg (Int.le_of_lt hc) hk
        omega
      omega
    · rename_i hneg
      rw [Int.mul_fdiv_cancel_left _ (by omega)]
      refine Int.not_le.mp fun hk => ?_
      have := Int.mul_nonpos_of_nonneg_of_nonpos (Int.le_of_lt hc) hk
      omega
/-- made with the content above nought, then turned -/
theorem simp_eq {xs : List Int} (ht : Tr xs) (hne : xs ≠ []) : simp' xs = if (divBy xs (cont xs)).getLast?.getD 0 < 0 then (divBy xs (cont xs)).map (fun x => -x) else divBy xs (cont xs) := by
  have hp := cont_pos ht hne
  rcases snoc_cases xs with rfl | ⟨ys, y, rfl⟩
  · exact absurd rfl hne
  have hd : (cont (ys ++ [y]) : Int) ∣ y := cont_dvd (by simp)
  have e1 : (divBy (ys ++ [y]) (cont (ys ++ [y]))).getLast?.getD 0 = y.fdiv (cont (ys ++ [y])) := by
    unfold divBy
    rw [List.map_append]
    simp
  have e2 : (ys ++ [y]).getLast?.getD 0 = y := by simp
  have iff : y.fdiv (cont (ys ++ [y])) < 0 ↔ y < 0 := by
    obtain ⟨k, hk⟩ := hd
    have hc : (0 : Int) < (cont (ys ++ [y]) : Int) := by omega
    generalize cont (ys ++ [y]) = c at hp hk hc
    subst hk
    rw [Int.mul_fdiv_cancel_left _ (by omega)]
    constructor
    · intro hk
      exact Int.mul_neg_of_pos_of_neg hc hk
    · intro h
      refine Int.not_le.mp fun hk => ?_
      have := Int.mul_nonneg (Int.le_of_lt hc) hk
      omega
  rw [e1]
  unfold simp' sgc
  rw [e2]
  by_cases hy : y < 0
  · rw [if_pos hy, if_pos (iff.mpr hy)]
    unfold divBy
    rw [List.map_map]
    refine List.map_congr_left fun x hx => ?_
    obtain ⟨k, hk⟩ := cont_dvd hx
    show x.fdiv (-(cont (ys ++ [y]) : Int)) = -(x.fdiv (cont (ys ++ [y])))
    have hc : (cont (ys ++ [y]) : Int) ≠ 0 := by omega
    have e3 : (cont (ys ++ [y]) : Int) * k = -(cont (ys ++ [y]) : Int) * -k := (Int.neg_mul_neg _ _).symm
    conv => rhs; rw [hk, Int.mul_fdiv_cancel_left _ hc]
    rw [hk, e3, Int.mul_fdiv_cancel_left _ (by omega)]
  · rw [if_neg hy, if_neg (fun h => hy (iff.mp h))]
end Pa

namespace Pa
open Ser

/-! ### division with a rest, without fractions -/
/-- nothing but 1 divides the number and the two rows -/
def CP (m : Int) (f r : Ser) : Prop := ∀ d : Nat, (d : Int) ∣ m → (∀ i, (d : Int) ∣ f i) → (∀ i, (d : Int) ∣ r i) → d = 1
theorem dvd_S {d : Int} {xs : List Int} (h : ∀ x ∈ xs, d ∣ x) (i : Nat) : d ∣ S xs i := by
  rw [S_at, List.getD_eq_getElem?_getD]
  cases e : xs[i]? with
  | none => exact Int.dvd_zero d
  | some x => exact h x (List.mem_of_getElem? e)
theorem dvd_of_S {d : Int} {xs : List Int} (h : ∀ i, d ∣ S xs i) : ∀ x ∈ xs, d ∣ x := fun x hx => by
  obtain ⟨i, hi, rfl⟩ := List.getElem_of_mem hx
  have := h i
  rw [S_at, List.getD_eq_getElem?_getD, List.getElem?_eq_getElem hi] at this
  exact this
theorem CP.gcd {m : Int} {q r : List Int} (h : CP m (S q) (S r)) : Nat.gcd m.natAbs (Nat.gcd (cont q) (cont r)) = 1 := by
  refine h _ (Int.ofNat_dvd_left.mpr (Nat.gcd_dvd_left _ _)) (dvd_S fun x hx => ?_) (dvd_S fun x hx => ?_)
  · exact Int.dvd_trans (Int.ofNat_dvd.mpr (Nat.dvd_trans (Nat.gcd_dvd_right _ _) (Nat.gcd_dvd_left _ _))) (cont_dvd hx)
  · exact Int.dvd_trans (Int.ofNat_dvd.mpr (Nat.dvd_trans (Nat.gcd_dvd_right _ _) (Nat.gcd_dvd_right _ _))) (cont_dvd hx)
/-- what a step multiplies by, and what it puts -/
def more (lc top : Int) : Int := (lc.natAbs : Int).fdiv (Nat.gcd lc.natAbs top.natAbs : Nat)
def putv (lc top : Int) : Int := (more lc top * top).fdiv lc
theorem step_facts {lc top : Int} (h1 : lc ≠ 0) (h2 : top ≠ 0) : 1 ≤ more lc top ∧ (more lc top).natAbs ≤ lc.natAbs ∧ putv lc top * lc = more lc top * top ∧ (putv lc top).natAbs ≤ top.natAbs ∧ Nat.gcd (more lc top).natAbs (putv lc top).natAbs = 1 := by
  have hg : 0 < Nat.gcd lc.natAbs top.natAbs := Nat.gcd_pos_of_pos_left _ (Int.natAbs_pos.mpr h1)
  obtain ⟨c, hc⟩ : ((Nat.gcd lc.natAbs top.natAbs : Nat) : Int) ∣ lc := Int.ofNat_dvd_left.mpr (Nat.gcd_dvd_left _ _)
  obtain ⟨u, hu⟩ : ((Nat.gcd lc.natAbs top.natAbs : Nat) : Int) ∣ top := Int.ofNat_dvd_left.mpr (Nat.gcd_dvd_right _ _)
  have hcu : Nat.gcd c.natAbs u.natAbs = 1 := by
    have e : Nat.gcd lc.natAbs top.natAbs * Nat.gcd c.natAbs u.natAbs = Nat.gcd lc.natAbs top.natAbs * 1 := by
      rw [← Nat.gcd_mul_left, Nat.mul_one]
      have a1 := congrArg Int.natAbs hc
      have a2 := congrArg Int.natAbs hu
      rw [Int.natAbs_mul, Int.natAbs_natCast] at a1 a2
      rw [← a1, ← a2]
    exact Nat.eq_of_mul_eq_mul_left hg e
  unfold putv more
  generalize Nat.gcd lc.natAbs top.natAbs = g at hg hc hu
  have hg0 : (g : Int) ≠ 0 := by omega
  have c0 : c ≠ 0 := fun z => h1 (by rw [hc, z, Int.mul_zero])
  have e1 : (lc.natAbs : Int).fdiv (g : Int) = (c.natAbs : Int) := by
    have a1 : (lc.natAbs : Int) = (g : Int) * (c.natAbs : Int) := by
      rw [hc, Int.natAbs_mul, Int.natAbs_natCast, Int.natCast_mul]
    rw [a1, Int.mul_fdiv_cancel_left _ hg0]
  rw [e1]
  have hcs : (c.natAbs : Int) = c * c.sign := by
    have := Int.sign_mul_natAbs c
    rcases Int.lt_trichotomy c 0 with h | h | h
    · rw [Int.sign_eq_neg_one_of_neg h]; omega
    · exact absurd h c0
    · rw [Int.sign_eq_one_of_pos h]; omega
  have e2 : ((c.natAbs : Int) * top).fdiv lc = c.sign * u := by
    have a2 : (c.natAbs : Int) * top = lc * (c.sign * u) := by
      rw [hcs, hu, hc]; grind
    rw [a2, Int.mul_fdiv_cancel_left _ h1]
  rw [e2]
  have sa : c.sign.natAbs = 1 := by
    rcases Int.lt_trichotomy c 0 with h | h | h
    · rw [Int.sign_eq_neg_one_of_neg h]; rfl
    · exact absurd h c0
    · rw [Int.sign_eq_one_of_pos h]; rfl
  refine ⟨by omega, ?_, ?_, ?_, ?_⟩
  · rw [hc, Int.natAbs_mul, Int.natAbs_natCast, Int.natAbs_natCast]
    exact Nat.le_mul_of_pos_left _ hg
  · rw [hcs, hu, hc]; grind
  · rw [Int.natAbs_mul, sa, Nat.one_mul, hu, Int.natAbs_mul, Int.natAbs_natCast]
    exact Nat.le_mul_of_pos_left _ hg
  · rw [Int.natAbs_natCast, Int.natAbs_mul, sa, Nat.one_mul]; exact hcu
theorem nat_dvd_of_coprime {d : Nat} {m x : Int} (h : Nat.gcd d m.natAbs = 1) (hd : (d : Int) ∣ m * x) : (d : Int) ∣ x := by
  rw [Int.ofNat_dvd_left] at hd ⊢
  rw [Int.natAbs_mul] at hd
  exact Nat.Coprime.dvd_of_dvd_mul_left h hd

/-- what holds behind t steps of n -/
structure DI (xs ys : List Int) (a b n t : Nat) (m : Int) (f r : List Int) : Prop where
  m1 : 1 ≤ m
  fl : f.length = n
  rl : r.length = xs.length
  eq : C m * S xs = S ys * S f + S r
  rz : ∀ i, n - t + ys.length ≤ i + 1 → S r i = 0
  fz : ∀ i, i < n - t → S f i = 0
  cp : CP m (S f) (S r)
  mb : Bd (t * b + 1) m
  fb : BdL (a + t * (b + 1)) f
  rb : BdL (a + t * (b + 1)) r
theorem DI.start {xs ys : List Int} {a b n : Nat} (hn : n = xs.length + 1 - ys.length) (ha : BdL a xs) : DI xs ys a b n 0 1 (List.replicate n 0) xs where
  m1 := Int.le_refl 1
  fl := List.length_replicate
  rl := rfl
  eq := by rw [S_zeros, ← one_eq]; grind
  rz := fun i hi => S_out (by omega)
  fz := fun i _ => by rw [S_zeros, zero_at]
  cp := fun d hd _ _ => Int.ofNat.inj (Int.eq_one_of_dvd_one (Int.natCast_nonneg d) hd)
  mb := by unfold Bd; rw [Nat.zero_mul]; decide
  fb := fun x hx => by rw [(List.mem_replicate.mp hx).2]; exact Bd.zero
  rb := ha.mono (by omega)
theorem DI.skip {xs ys : List Int} {a b n t : Nat} {m : Int} {f r : List Int} (h : DI xs ys a b n t m f r) (ht : t < n) (hy : 0 < ys.length) (h0 : S r (n - 1 - t + ys.length - 1) = 0) : DI xs ys a b n (t + 1) m f r where
  m1 := h.m1
  fl := h.fl
  rl := h.rl
  eq := h.eq
  rz := fun i hi => by
    by_cases e : n - t + ys.length ≤ i + 1
    · exact h.rz i e
    · have : i = n - 1 - t + ys.length - 1 := by omega
      rw [this]; exact h0
  fz := fun i hi => h.fz i (by omega)
  cp := h.cp
  mb := h.mb.mono (by rw [Nat.succ_mul]; omega)
  fb := h.fb.mono (by rw [Nat.succ_mul]; omega)
  rb := h.rb.mono (by rw [Nat.succ_mul]; omega)
theorem S_one_at (j i : Nat) (v : Int) : (C v * X ^ j : Ser) i = if i = j then v else 0 := by
  rw [C_mul]
  have e : (X ^ j : Ser) = X ^ j * 1 := by grind
  rw [e, X_pow_mul]
  by_cases h : i = j
  · subst h
    rw [if_pos (Nat.le_refl _), if_pos rfl, Nat.sub_self]
    exact Int.mul_one v
  · rw [if_neg h]
    by_cases hl : j ≤ i
    · rw [if_pos hl]
      obtain ⟨k, hk⟩ : ∃ k, i - j = k + 1 := ⟨i - j - 1, by omega⟩
      rw [hk]
      exact Int.mul_zero v
    · rw [if_neg hl, Int.mul_zero]
theorem C_X_at (v : Int) (j : Nat) (g : Ser) (i : Nat) : (C v * X ^ j * g : Ser) i = if j ≤ i then v * g (i - j) else 0 := by
  have e : (C v * X ^ j * g : Ser) = C v * (X ^ j * g) := by grind
  rw [e, C_mul, X_pow_mul]
  split
  · rfl
  · rw [Int.mul_zero]
/-- the rest behind a step -/
def sbIn (v : Int) (ys : List Int) (j k : Nat) (acc : List Int) : List Int := acc.set (j + k) (acc.getD (j + k) 0 - v * ys.getD k 0)
theorem sbIn_eq (v : Int) (ys : List Int) (j : Nat) : sbIn v ys j = tmIn (-v) ys j := by
  funext k acc
  unfold sbIn tmIn
  rw [Int.neg_mul, ← Int.sub_eq_add_neg]
theorem DI.step {xs ys : List Int} {a b n t : Nat} {m : Int} {f r : List Int} (h : DI xs ys a b n t m f r) (ht : t < n) (hn : n = xs.length + 1 - ys.length) (hy : 0 < ys.length) (hb : BdL b ys)
    (hlc : S ys (ys.length - 1) ≠ 0) (htop : S r (n - 1 - t + ys.length - 1) ≠ 0) :
    DI xs ys a b n (t + 1) (m * more (S ys (ys.length - 1)) (S r (n - 1 - t + ys.length - 1)))
      ((f.map fun x => more (S ys (ys.length - 1)) (S r (n - 1 - t + ys.length - 1)) * x).set (n - 1 - t) (putv (S ys (ys.length - 1)) (S r (n - 1 - t + ys.length - 1))))
      (lp (sbIn (putv (S ys (ys.length - 1)) (S r (n - 1 - t + ys.length - 1))) ys (n - 1 - t)) ys.length (r.map fun x => more (S ys (ys.length - 1)) (S r (n - 1 - t + ys.length - 1)) * x)) := by
  obtain ⟨f1, f2, f3, f4, f5⟩ := step_facts hlc htop
  have hlb : (S ys (ys.length - 1)).natAbs < 2 ^ b := hb.at _
  have htb : (S r (n - 1 - t + ys.length - 1)).natAbs < 2 ^ (a + t * (b + 1)) := h.rb.at _
  rw [sbIn_eq]
  generalize more (S ys (ys.length - 1)) (S r (n - 1 - t + ys.length - 1)) = mo at *
  generalize putv (S ys (ys.length - 1)) (S r (n - 1 - t + ys.length - 1)) = v at *
  have hpl : n - 1 - t < (f.map fun x => mo * x).length := by rw [List.length_map, h.fl]; omega
  have hf0 : (f.map fun x => mo * x).getD (n - 1 - t) 0 = 0 := by
    have := congrFun (S_map_mul f mo) (n - 1 - t)
    rw [C_mul, h.fz _ (by omega), Int.mul_zero] at this
    exact this
  have Sf : S ((f.map fun x => mo * x).set (n - 1 - t) v) = C mo * S f + C v * X ^ (n - 1 - t) := by
    have e : v = (f.map fun x => mo * x).getD (n - 1 - t) 0 + v := by rw [hf0, Int.zero_add]
    conv => lhs; rw [e]
    rw [S_set hpl, S_map_mul]
  have rlen : n - 1 - t + ys.length ≤ (r.map fun x => mo * x).length := by rw [List.length_map, h.rl]; omega
  have Sr : S (lp (tmIn (-v) ys (n - 1 - t)) ys.length (r.map fun x => mo * x)) = C mo * S r + C (-v) * X ^ (n - 1 - t) * S ys := by
    rw [S_row _ (Nat.le_refl _) rlen, S_map_mul, List.take_length]
  have hmob : Bd b mo := Nat.lt_of_le_of_lt f2 hlb
  have hvb : Bd (a + t * (b + 1)) v := Nat.lt_of_le_of_lt f4 htb
  refine ⟨?_, ?_, ?_, ?_, ?_, ?_, ?_, ?_, ?_, ?_⟩
  · have h1 : (0 : Int) < m := by have := h.m1; omega
    have h2 : (0 : Int) < mo := by omega
    have h3 := Int.mul_pos h1 h2
    omega
  · rw [List.length_set, List.length_map, h.fl]
  · rw [lp_len (fun i a => tmIn_len _ _ _ _ _), List.length_map, h.rl]
  · rw [Sf, Sr, C_mulC, C_neg]
    have e := h.eq
    grind
  · intro i hi
    rw [Sr, add_at, C_mul, C_X_at]
    by_cases e : n - t + ys.length ≤ i + 1
    · rw [h.rz i e, Int.mul_zero, if_pos (by omega), S_out (xs := ys) (by omega), Int.mul_zero]; rfl
    · have ei : i = n - 1 - t + ys.length - 1 := by omega
      rw [if_pos (by omega), show i - (n - 1 - t) = ys.length - 1 by omega, ei, Int.neg_mul, f3]
      omega
  · intro i hi
    rw [Sf, add_at, C_mul, S_one_at, if_neg (by omega), h.fz i (by omega), Int.mul_zero]; rfl
  · intro d h1 h2 h3
    have hv : (d : Int) ∣ v := by
      have := h2 (n - 1 - t)
      rw [Sf, add_at, C_mul, S_one_at, if_pos rfl, h.fz _ (by omega), Int.mul_zero, Int.zero_add] at this
      exact this
    have hco : Nat.gcd d mo.natAbs = 1 := by
      have e1 : Nat.gcd d mo.natAbs ∣ mo.natAbs := Nat.gcd_dvd_right _ _
      have e2 : Nat.gcd d mo.natAbs ∣ v.natAbs := Nat.dvd_trans (Nat.gcd_dvd_left _ _) (Int.ofNat_dvd_left.mp hv)
      have := Nat.dvd_gcd e1 e2
      rw [f5] at this
      exact Nat.dvd_one.mp this
    refine h.cp d (nat_dvd_of_coprime hco (by rw [Int.mul_comm]; exact h1)) (fun i => ?_) (fun i => ?_)
    · refine nat_dvd_of_coprime hco ?_
      have := h2 i
      rw [Sf, add_at, C_mul, S_one_at] at this
      by_cases e : i = n - 1 - t
      · rw [e, h.fz _ (by omega), Int.mul_zero]; exact Int.dvd_zero _
      · rw [if_neg e, Int.add_zero] at this; exact this
    · refine nat_dvd_of_coprime hco ?_
      have := h3 i
      rw [Sr, add_at, C_mul, C_X_at] at this
      split at this
      · have e3 : (d : Int) ∣ -v * S ys (i - (n - 1 - t)) := Int.dvd_mul_of_dvd_left (Int.dvd_neg.mpr hv)
        exact (Int.dvd_add_left e3).mp this
      · rw [Int.add_zero] at this; exact this
  · exact (h.mb.mul hmob).mono (by rw [Nat.succ_mul]; omega)
  · intro x hx
    rcases List.mem_or_eq_of_mem_set hx with hx | rfl
    · obtain ⟨y, hy, rfl⟩ := List.mem_map.mp hx
      exact (hmob.mul (h.fb y hy)).mono (by rw [Nat.succ_mul]; omega)
    · exact hvb.mono (by rw [Nat.succ_mul]; omega)
  · intro x hx
    obtain ⟨i, hi, rfl⟩ := List.getElem_of_mem hx
    have ex : (lp (tmIn (-v) ys (n - 1 - t)) ys.length (r.map fun x => mo * x))[i] = S (lp (tmIn (-v) ys (n - 1 - t)) ys.length (r.map fun x => mo * x)) i := by
      rw [S_at, List.getD_eq_getElem?_getD, List.getElem?_eq_getElem hi]; rfl
    rw [ex, Sr, add_at, C_mul, C_X_at]
    have h1 : Bd (a + t * (b + 1) + b) (mo * S r i) := (hmob.mul (h.rb.at i)).mono (by omega)
    have h2 : Bd (a + t * (b + 1) + b) (if n - 1 - t ≤ i then -v * S ys (i - (n - 1 - t)) else 0) := by
      split
      · exact (hvb.neg.mul (hb.at _)).mono (by omega)
      · exact Bd.zero
    exact (h1.add h2).mono (by rw [Nat.succ_mul]; omega)
/-- so many times the one is the other times the quotient and the rest; the number, the quotient and the rest have nothing in common -/
structure Dv (xs ys : List Int) (m : Int) (q r : List Int) : Prop where
  m1 : 1 ≤ m
  eq : C m * S xs = S ys * S q + S r
  qt : Tr q
  rt : Tr r
  rl : r.length < ys.length
  cp : CP m (S q) (S r)
theorem DI.dv {xs ys : List Int} {a b n : Nat} {m : Int} {f r : List Int} (h : DI xs ys a b n n m f r) (hy : 0 < ys.length) : Dv xs ys m (trim f) (trim r) where
  m1 := h.m1
  eq := by rw [S_trim, S_trim]; exact h.eq
  qt := tr_trim _
  rt := tr_trim _
  rl := by
    have := trim_len_le (xs := r) (n := ys.length - 1) fun i hi => h.rz i (by omega)
    omega
  cp := by rw [S_trim, S_trim]; exact h.cp
end Pa

namespace Pa
open Ser

/-! ### how far a series goes -/
def Fin (n : Nat) (f : Ser) : Prop := ∀ i, n ≤ i → f i = 0
theorem Fin.S (xs : List Int) : Fin xs.length (Pa.S xs) := fun _ h => S_out h
theorem Fin.mono {n m : Nat} {f : Ser} (h : Fin n f) (hm : n ≤ m) : Fin m f := fun i hi => h i (by omega)
theorem Fin.zero (n : Nat) : Fin n 0 := fun i _ => zero_at i
theorem Fin.add {n : Nat} {f g : Ser} (hf : Fin n f) (hg : Fin n g) : Fin n (f + g) := fun i hi => by rw [add_at, hf i hi, hg i hi]; rfl
theorem Fin.sub {n : Nat} {f g : Ser} (hf : Fin n f) (hg : Fin n g) : Fin n (f - g) := fun i hi => by rw [sub_at, hf i hi, hg i hi]; rfl
theorem Fin.neg {n : Nat} {f : Ser} (hf : Fin n f) : Fin n (-f) := fun i hi => by rw [neg_at, hf i hi]; rfl
theorem Fin.C (a : Int) : Fin 1 (Ser.C a) := fun i hi => by
  obtain ⟨k, rfl⟩ : ∃ k, i = k + 1 := ⟨i - 1, by omega⟩
  exact C_succ a k
theorem Fin.smul {n : Nat} {f : Ser} (a : Int) (hf : Fin n f) : Fin n (Ser.C a * f) := fun i hi => by rw [C_mul, hf i hi, Int.mul_zero]
theorem Fin.eq_zero {f : Ser} (h : Fin 0 f) : f = 0 := Ser.ext fun i => by rw [h i (Nat.zero_le _), zero_at]
/-- the product's top number -/
theorem Fin.top {d e : Nat} {f g : Ser} (hf : Fin (d + 1) f) (hg : Fin (e + 1) g) : (f * g) (d + e) = f d * g e ∧ Fin (d + e + 1) (f * g) := by
  induction d generalizing f with
  | zero =>
    have ht : tail f = 0 := Ser.ext fun i => by rw [tail_at, hf _ (by omega), zero_at]
    have key : ∀ n, (f * g) n = f 0 * g n := fun n => by
      cases n with
      | zero => rfl
      | succ n => rw [mul_succ_at, ht, zero_mul_at, Int.add_zero]
    refine ⟨by rw [Nat.zero_add, key], fun i hi => ?_⟩
    rw [key, hg i (by omega), Int.mul_zero]
  | succ d ih =>
    have ht : Fin (d + 1) (tail f) := fun i hi => hf (i + 1) (by omega)
    obtain ⟨h1, h2⟩ := ih ht
    refine ⟨?_, fun i hi => ?_⟩
    · rw [show d + 1 + e = (d + e) + 1 by omega, mul_succ_at, hg (d + e + 1) (by omega), Int.mul_zero, Int.zero_add, h1]; rfl
    · obtain ⟨k, rfl⟩ : ∃ k, i = k + 1 := ⟨i - 1, by omega⟩
      rw [mul_succ_at, hg (k + 1) (by omega), Int.mul_zero, Int.zero_add]
      exact h2 k (by omega)
theorem Fin.mul {d e : Nat} {f g : Ser} (hf : Fin d f) (hg : Fin e g) : Fin (d + e - 1) (f * g) := by
  cases d with
  | zero =>
    rw [hf.eq_zero]
    intro i _
    exact zero_mul_at g i
  | succ d =>
    cases e with
    | zero =>
      rw [hg.eq_zero, mul_comm']
      intro i _
      exact zero_mul_at f i
    | succ e => exact (Fin.top hf hg).2.mono (by omega)
/-- nought, or its top number -/
theorem Fin.cases {f : Ser} : ∀ {n : Nat}, Fin n f → f = 0 ∨ ∃ d, d < n ∧ f d ≠ 0 ∧ Fin (d + 1) f
  | 0, h => .inl h.eq_zero
  | n + 1, h => by
    by_cases hn : f n = 0
    · have h' : Fin n f := fun i hi => by
        by_cases e : i = n
        · rw [e]; exact hn
        · exact h i (by omega)
      rcases Fin.cases h' with h' | ⟨d, h1, h2, h3⟩
      · exact .inl h'
      · exact .inr ⟨d, by omega, h2, h3⟩
    · exact .inr ⟨n, by omega, hn, h⟩
theorem ne_zero_of_at {f : Ser} {d : Nat} (h : f d ≠ 0) : f ≠ 0 := fun z => h (by rw [z, zero_at])
/-- no divisors of nought -/
theorem mul_eq_zero' {n m : Nat} {f g : Ser} (hf : Fin n f) (hg : Fin m g) (h : f * g = 0) : f = 0 ∨ g = 0 := by
  rcases hf.cases with e | ⟨d, _, h1, h2⟩
  · exact .inl e
  · rcases hg.cases with e | ⟨e, _, h3, h4⟩
    · exact .inr e
    · have t := (Fin.top h2 h4).1
      rw [h, zero_at] at t
      exact absurd t.symm (Int.mul_ne_zero h1 h3)
theorem mul_cancel' {n m k : Nat} {f g h : Ser} (hf : Fin n f) (hg : Fin m g) (hh : Fin k h) (h0 : f ≠ 0) (e : f * g = f * h) : g = h := by
  have e2 : f * (g - h) = 0 := by grind
  rcases mul_eq_zero' hf ((hg.mono (Nat.le_max_left m k)).sub (hh.mono (Nat.le_max_right m k))) e2 with z | z
  · exact absurd z h0
  · grind
/-- a multiple that is shorter is nought -/
theorem mul_short {n L : Nat} {f g : Ser} (hf : Fin n f) (hg : Fin (L + 1) g) (hg0 : g L ≠ 0) (h : Fin L (g * f)) : f = 0 := by
  rcases hf.cases with e | ⟨d, _, h1, h2⟩
  · exact e
  · have t := (Fin.top hg h2).1
    rw [h (L + d) (by omega)] at t
    exact absurd t.symm (Int.mul_ne_zero hg0 h1)
theorem S_ne_zero {xs : List Int} (ht : Tr xs) (hne : xs ≠ []) : S xs ≠ 0 := fun h => hne (S_zero_nil ht h)
theorem S_top {ys : List Int} (ht : Tr ys) (hne : ys ≠ []) : S ys (ys.length - 1) ≠ 0 := by
  have hy : 0 < ys.length := List.length_pos_iff.mpr hne
  have e : S ys (ys.length - 1) = ys.getLast hne := by
    rw [S_at, List.getD_eq_getElem?_getD, List.getElem?_eq_getElem (by omega), List.getLast_eq_getElem]; rfl
  rw [e]; exact tr_last ht hne
theorem Fin.Sl {ys : List Int} (hne : ys ≠ []) : Fin (ys.length - 1 + 1) (Pa.S ys) := (Fin.S ys).mono (by omega)
/-- a series that ends as a row -/
theorem Fin.row {n : Nat} {f : Ser} (h : Fin n f) : ∃ xs, Tr xs ∧ Pa.S xs = f ∧ xs.length ≤ n := by
  refine ⟨trim ((List.range n).map fun i => f i), tr_trim _, ?_, Nat.le_trans (trim_length_le _) (by rw [List.length_map, List.length_range]; exact Nat.le_refl n)⟩
  rw [S_trim]
  refine Ser.ext fun i => ?_
  rw [S_at, getD_map_range]
  split
  · rfl
  · rw [h i (by omega)]
theorem C_ne_zero {a : Int} (h : a ≠ 0) : Ser.C a ≠ 0 := fun z => h (C_inj (by rw [z]; rfl))
theorem C_cancel {a : Int} {f g : Ser} (h : a ≠ 0) (e : Ser.C a * f = Ser.C a * g) : f = g := Ser.ext fun i => by
  have := congrFun e i
  rw [C_mul, C_mul] at this
  exact Int.eq_of_mul_eq_mul_left h this

/-! ### a division that leaves nothing -/
/-- so many times another one -/
def Whole (xs ys q : List Int) : Prop := Tr q ∧ S xs = S ys * S q
theorem Whole.unique {xs ys q q' : List Int} (ht : Tr ys) (hne : ys ≠ []) (h : Whole xs ys q) (h' : Whole xs ys q') : q = q' :=
  S_inj h.1 h'.1 (mul_cancel' (Fin.S ys) (Fin.S q) (Fin.S q') (S_ne_zero ht hne) (by rw [← h.2, ← h'.2]))
theorem Whole.len {xs ys q : List Int} (ht : Tr ys) (hne : ys ≠ []) (h : Whole xs ys q) : q.length ≤ xs.length + 1 - ys.length := by
  by_cases hq : q = []
  · subst hq; exact Nat.zero_le _
  · have h1 := (Fin.top (Fin.Sl hne) (Fin.Sl hq)).1
    rw [← h.2] at h1
    have hy : 0 < ys.length := List.length_pos_iff.mpr hne
    have hq0 : 0 < q.length := List.length_pos_iff.mpr hq
    have h2 : S xs (ys.length - 1 + (q.length - 1)) ≠ 0 := by
      rw [h1]; exact Int.mul_ne_zero (S_top ht hne) (S_top h.1 hq)
    have h3 : ys.length - 1 + (q.length - 1) < xs.length := Nat.lt_of_not_le fun z => h2 (S_out z)
    omega
theorem Dv.whole {xs ys q q' r : List Int} {m : Int} (ht : Tr ys) (hne : ys ≠ []) (h : Dv xs ys m q r) (h' : Whole xs ys q') : m = 1 ∧ r = [] ∧ q = q' := by
  have hy : 0 < ys.length := List.length_pos_iff.mpr hne
  have e1 : S ys * (C m * S q' - S q) = S r := by
    have a1 := h.eq
    have a2 := h'.2
    grind
  have fr : Fin (ys.length - 1) (S ys * (C m * S q' - S q)) := by
    rw [e1]; exact (Fin.S r).mono (by have := h.rl; omega)
  have f1 : Fin (max q'.length q.length) (C m * S q' - S q) := (((Fin.S q').smul m).mono (Nat.le_max_left _ _)).sub ((Fin.S q).mono (Nat.le_max_right _ _))
  have z := mul_short f1 (Fin.Sl hne) (S_top ht hne) fr
  have hr : r = [] := S_zero_nil h.rt (by rw [← e1, z]; grind)
  have hq : S q = C m * S q' := by grind
  have hm : m = 1 := by
    have hd : ((m.natAbs : Nat) : Int) ∣ m := Int.natAbs_dvd.mpr (Int.dvd_refl m)
    have := h.cp m.natAbs hd (fun i => by rw [hq, C_mul]; exact Int.dvd_mul_of_dvd_left hd) (fun i => by rw [hr, S_nil, zero_at]; exact Int.dvd_zero _)
    have := h.m1
    omega
  refine ⟨hm, hr, S_inj h.qt h'.1 ?_⟩
  rw [hq, hm, ← one_eq]; grind
theorem Dv.isWhole {xs ys q : List Int} (h : Dv xs ys 1 q []) : Whole xs ys q := ⟨h.qt, by
  have e := h.eq
  rw [S_nil, ← one_eq] at e
  grind⟩

/-- long division without fractions: what holds behind t steps of n -/
structure QI (xs ys : List Int) (a b n t : Nat) (f r : List Int) : Prop where
  fl : f.length = n
  rl : r.length = xs.length
  eq : S xs = S ys * S f + S r
  rz : ∀ i, n - t + ys.length ≤ i + 1 → S r i = 0
  fz : ∀ i, i < n - t → S f i = 0
  fb : BdL (a + t * (b + 1)) f
  rb : BdL (a + t * (b + 1)) r
theorem QI.start {xs ys : List Int} {a b n : Nat} (hn : n = xs.length + 1 - ys.length) (ha : BdL a xs) : QI xs ys a b n 0 (List.replicate n 0) xs where
  fl := List.length_replicate
  rl := rfl
  eq := by rw [S_zeros]; grind
  rz := fun i hi => S_out (by omega)
  fz := fun i _ => by rw [S_zeros, zero_at]
  fb := fun x hx => by rw [(List.mem_replicate.mp hx).2]; exact Bd.zero
  rb := ha.mono (by omega)
theorem QI.step {xs ys : List Int} {a b n t : Nat} {f r : List Int} {v : Int} (h : QI xs ys a b n t f r) (ht : t < n) (hn : n = xs.length + 1 - ys.length) (hy : 0 < ys.length) (hb : BdL b ys)
    (hlc : S ys (ys.length - 1) ≠ 0) (hv : v * S ys (ys.length - 1) = S r (n - 1 - t + ys.length - 1)) :
    QI xs ys a b n (t + 1) (f.set (n - 1 - t) v) (lp (sbIn v ys (n - 1 - t)) ys.length r) := by
  have htb : Bd (a + t * (b + 1)) (S r (n - 1 - t + ys.length - 1)) := h.rb.at _
  have hvb : Bd (a + t * (b + 1)) v := by
    refine Nat.lt_of_le_of_lt ?_ htb
    rw [← hv, Int.natAbs_mul]
    exact Nat.le_mul_of_pos_right _ (Int.natAbs_pos.mpr hlc)
  rw [sbIn_eq]
  have hpl : n - 1 - t < f.length := by rw [h.fl]; omega
  have hf0 : f.getD (n - 1 - t) 0 = 0 := h.fz _ (by omega)
  have Sf : S (f.set (n - 1 - t) v) = S f + C v * X ^ (n - 1 - t) := by
    have e : v = f.getD (n - 1 - t) 0 + v := by rw [hf0, Int.zero_add]
    conv => lhs; rw [e]
    rw [S_set hpl]
  have rlen : n - 1 - t + ys.length ≤ r.length := by rw [h.rl]; omega
  have Sr : S (lp (tmIn (-v) ys (n - 1 - t)) ys.length r) = S r + C (-v) * X ^ (n - 1 - t) * S ys := by
    rw [S_row _ (Nat.le_refl _) rlen, List.take_length]
  refine ⟨?_, ?_, ?_, ?_, ?_, ?_, ?_⟩
  · rw [List.length_set, h.fl]
  · rw [lp_len (fun i a => tmIn_len _ _ _ _ _), h.rl]
  · rw [Sf, Sr, C_neg]
    have e := h.eq
    grind
  · intro i hi
    rw [Sr, add_at, C_X_at]
    by_cases e : n - t + ys.length ≤ i + 1
    · rw [h.rz i e, if_pos (by omega), S_out (xs := ys) (by omega), Int.mul_zero]; rfl
    · have ei : i = n - 1 - t + ys.length - 1 := by omega
      rw [if_pos (by omega), show i - (n - 1 - t) = ys.length - 1 by omega, ei, Int.neg_mul, hv]
      omega
  · intro i hi
    rw [Sf, add_at, S_one_at, if_neg (by omega), h.fz i (by omega)]; rfl
  · intro x hx
    rcases List.mem_or_eq_of_mem_set hx with hx | rfl
    · exact (show Bd _ _ from h.fb x hx).mono (by rw [Nat.succ_mul]; omega)
    · exact hvb.mono (by rw [Nat.succ_mul]; omega)
  · intro x hx
    obtain ⟨i, hi, rfl⟩ := List.getElem_of_mem hx
    have ex : (lp (tmIn (-v) ys (n - 1 - t)) ys.length r)[i] = S (lp (tmIn (-v) ys (n - 1 - t)) ys.length r) i := by
      rw [S_at, List.getD_eq_getElem?_getD, List.getElem?_eq_getElem hi]; rfl
    rw [ex, Sr, add_at, C_X_at]
    have h1 : Bd (a + t * (b + 1) + b) (S r i) := (show Bd _ _ from h.rb.at i).mono (by omega)
    have h2 : Bd (a + t * (b + 1) + b) (if n - 1 - t ≤ i then -v * S ys (i - (n - 1 - t)) else 0) := by
      split
      · exact (hvb.neg.mul (hb.at _)).mono (by omega)
      · exact Bd.zero
    exact (h1.add h2).mono (by rw [Nat.succ_mul]; omega)
theorem QI.no {xs ys : List Int} {a b n t : Nat} {f r : List Int} (h : QI xs ys a b n t f r) (ht : t < n) (htr : Tr ys) (hne : ys ≠ []) (hd : ¬ S ys (ys.length - 1) ∣ S r (n - 1 - t + ys.length - 1)) : ∀ q, ¬ Whole xs ys q := fun q hq => by
  have hy : 0 < ys.length := List.length_pos_iff.mpr hne
  have e : S ys * (S q - S f) = S r := by
    have a1 := h.eq
    have a2 := hq.2
    grind
  have ff : Fin (max q.length f.length) (S q - S f) := ((Fin.S q).mono (Nat.le_max_left _ _)).sub ((Fin.S f).mono (Nat.le_max_right _ _))
  rcases ff.cases with z | ⟨d, _, h1, h2⟩
  · refine hd ?_
    rw [← e, z]
    have : (S ys * 0 : Ser) = 0 := by grind
    rw [this, zero_at]; exact Int.dvd_zero _
  · have t1 := Fin.top (Fin.Sl hne) h2
    rw [e] at t1
    have hlt : d ≤ n - 1 - t := Nat.le_of_not_lt fun hlt => by
      have z := h.rz (ys.length - 1 + d) (by omega)
      rw [t1.1] at z
      exact Int.mul_ne_zero (S_top htr hne) h1 z
    by_cases hdd : d = n - 1 - t
    · refine hd ?_
      rw [show n - 1 - t + ys.length - 1 = ys.length - 1 + d by omega, t1.1]
      exact Int.dvd_mul_right _ _
    · refine hd ?_
      rw [t1.2 _ (by omega)]; exact Int.dvd_zero _
theorem QI.whole {xs ys : List Int} {a b n : Nat} {f r : List Int} (h : QI xs ys a b n n f r) (hr : trim r = []) : Whole xs ys (trim f) := ⟨tr_trim _, by
  have e : S r = 0 := by rw [← S_trim, hr, S_nil]
  rw [S_trim, h.eq, e]; grind⟩
theorem QI.nowhole {xs ys : List Int} {a b n : Nat} {f r : List Int} (h : QI xs ys a b n n f r) (htr : Tr ys) (hne : ys ≠ []) (hr : trim r ≠ []) : ∀ q, ¬ Whole xs ys q := fun q hq => by
  have hy : 0 < ys.length := List.length_pos_iff.mpr hne
  have e : S ys * (S q - S f) = S r := by
    have a1 := h.eq
    have a2 := hq.2
    grind
  have ff : Fin (max q.length f.length) (S q - S f) := ((Fin.S q).mono (Nat.le_max_left _ _)).sub ((Fin.S f).mono (Nat.le_max_right _ _))
  have z := mul_short ff (Fin.Sl hne) (S_top htr hne) (by rw [e]; exact fun i hi => h.rz i (by omega))
  refine hr (S_zero_nil (tr_trim r) ?_)
  rw [S_trim, ← e, z]; grind
end Pa
namespace Pa
open PySem PySem.Spec PyProof.Rows L2
local macro_rules | `(tactic| walk_at "mem") => `(tactic| first | exact .head _ | (refine .tail _ ?_; walk_at "mem"))
local macro_rules | `(tactic| walk_at "rx") => `(tactic| first
  | with_reducible exact Rx.arg (by assumption) | exact Rx.own (by walk_at "mem") | exact Rx.arg (by assumption))
local macro_rules | `(tactic| walk_at "rl") => `(tactic| first
  | with_reducible exact Rl.x (Rx.arg (by assumption)) | exact Rl.x (Rx.own (by walk_at "mem")) | exact Rl.sq (by assumption) | exact Rl.x (Rx.arg (by assumption)))
local macro_rules | `(tactic| walk_at "rt") => `(tactic| first
  | with_reducible exact Rt.x (Rx.arg (by assumption)) | exact Rt.x (Rx.own (by walk_at "mem")) | exact Rt.x (Rx.arg (by assumption)))
local macro_rules | `(tactic| walk_at "sub") => `(tactic| (repeat (first | exact .slnil | exact .refl _ | apply List.Sublist.cons_cons | apply List.Sublist.cons)))
local macro_rules | `(tactic| walk_at "ok") => `(tactic| first
  | assumption | decide | omega | exact mulL (by omega) (by omega) | exact mulR (by omega) (by omega) | (refine ⟨?_, ?_⟩ <;> omega))
local macro_rules | `(tactic| walk_at "w1") => `(tactic| first
  | ((with_reducible refine' W.var ?h ?_); (case h => rfl))
  | with_reducible refine W.c ?_
  | with_reducible refine W.op ?_
  | with_reducible refine RW.i0 ?_
  | ((with_reducible refine' RW.i1 ?h ?_); (case h => walk_at "ok"))
  | with_reducible refine RW.eqI ?_
  | with_reducible refine RW.neI ?_
  | ((with_reducible refine' RW.eqZ ?h ?h2 ?_); (case h => walk_at "rl"); (case h2 => walk_at "rl"))
  | ((with_reducible refine' RW.neZ ?h ?h2 ?_); (case h => walk_at "rl"); (case h2 => walk_at "rl"))
  | with_reducible refine RW.eqS ?_
  | with_reducible refine RW.isNoR ?_
  | with_reducible refine RW.isNoN ?_
  | with_reducible refine RW.notNoR ?_
  | with_reducible refine RW.notNoN ?_
  | with_reducible refine RW.neS ?_
  | ((with_reducible refine' RW.ixZ ?h ?h2 ?_); (case h => walk_at "rl"); (case h2 => walk_at "ok"))
  | ((with_reducible refine' RW.ixL ?h ?h2 ?_); (case h => walk_at "rl"); (case h2 => rfl))
  | ((with_reducible refine' RW.ixT ?h ?h2 ?_); (case h => walk_at "rt"); (case h2 => rfl))
  | with_reducible refine W.un ?_
  | with_reducible refine RU.int ?_
  | with_reducible refine WA.nil ?_
  | with_reducible refine WA.cons ?_
  | with_reducible refine W.cb ?_
  | with_reducible refine W.call ?_
  | ((with_reducible refine' RC.lenZ ?h ?_); (case h => walk_at "rl"))
  | ((with_reducible refine' RC.len ?h ?_); (case h => walk_at "rl"))
  | ((with_reducible refine' RC.lenT ?h ?_); (case h => walk_at "rt"))
  | ((with_reducible refine' RC.lenS ?h ?_); (case h => walk_at "ok"))
  | with_reducible refine RC.abs ?_
  | with_reducible refine RC.max2 ?_
  | with_reducible refine RC.min2 ?_
  | ((with_reducible refine' RC.listL ?h ?_); (case h => walk_at "rl"))
  | (with_reducible refine W.lst0 ?_)
  | (with_reducible refine W.lst1 ?_)
  | (with_reducible refine W.lst ?_)
  | (with_reducible refine W.tup ?_)
  | (with_reducible refine W.sl ?_)
  | (with_reducible refine WO.no ?_)
  | (with_reducible refine WO.part ?_)
  | ((with_reducible refine' RS.take ?h ?h2 ?_); (case h => walk_at "rl"); (case h2 => walk_at "ok"))
  | ((with_reducible refine' RS.drop ?h ?h2 ?_); (case h => walk_at "rl"); (case h2 => walk_at "ok"))
  | with_reducible refine RC.isiII ?_
  | with_reducible refine RC.isiIB ?_
  | ((with_reducible refine' RC.isiLL ?h ?_); (case h => walk_at "rx"))
  | ((with_reducible refine' RC.isiTT ?h ?_); (case h => walk_at "rx"))
  | with_reducible refine WT.test ?_
  | with_reducible refine WT.b ?_
  | with_reducible refine WT.not ?_
  | with_reducible refine WT.and ?_
  | with_reducible refine WT.or ?_
  | with_reducible refine W.andV ?_
  | with_reducible refine W.orV ?_
  | with_reducible refine W.notV ?_
  | with_reducible refine W.chain ?_
  | with_reducible refine S.seq ?_
  | ((with_reducible refine Un.nx ?_); (with_reducible refine UU.zero ?_))
  | ((with_reducible refine Un.nx ?_); (with_reducible refine UU.succ ?_))
  | with_reducible refine UU.succ ?_
  | with_reducible refine UU.zero ?_
  | with_reducible refine S.asg ?_
  | with_reducible refine S.dropS ?_
  | with_reducible refine S.ret ?_
  | with_reducible refine S.if_ ?_
  | with_reducible refine S.next ?_
  | (with_reducible refine ⟨_, rfl, ?_⟩)
  | refine And.intro (fun _ => ?_) (fun h => Bool.noConfusion h)
  | refine And.intro (fun h => Bool.noConfusion h) (fun _ => ?_))
local macro_rules | `(tactic| walk_at "v1") => `(tactic| first
  | ((with_reducible refine' W.var ?h ?_); (case h => rfl))
  | with_reducible refine W.c ?_
  | with_reducible refine W.op ?_
  | with_reducible refine RW.i0 ?_
  | ((with_reducible refine' RW.i1 ?h ?_); (case h => walk_at "ok"))
  | with_reducible refine RW.eqI ?_
  | with_reducible refine RW.neI ?_
  | ((with_reducible refine' RW.eqZ ?h ?h2 ?_); (case h => walk_at "rl"); (case h2 => walk_at "rl"))
  | ((with_reducible refine' RW.neZ ?h ?h2 ?_); (case h => walk_at "rl"); (case h2 => walk_at "rl"))
  | with_reducible refine RW.eqS ?_
  | with_reducible refine RW.isNoR ?_
  | with_reducible refine RW.isNoN ?_
  | with_reducible refine RW.notNoR ?_
  | with_reducible refine RW.notNoN ?_
  | with_reducible refine RW.neS ?_
  | ((with_reducible refine' RW.ixZ ?h ?h2 ?_); (case h => walk_at "rl"); (case h2 => walk_at "ok"))
  | ((with_reducible refine' RW.ixL ?h ?h2 ?_); (case h => walk_at "rl"); (case h2 => rfl))
  | ((with_reducible refine' RW.ixT ?h ?h2 ?_); (case h => walk_at "rt"); (case h2 => rfl))
  | with_reducible refine W.un ?_
  | with_reducible refine RU.int ?_
  | with_reducible refine WA.nil ?_
  | with_reducible refine WA.cons ?_
  | with_reducible refine W.cb ?_
  | with_reducible refine W.call ?_
  | ((with_reducible refine' RC.lenZ ?h ?_); (case h => walk_at "rl"))
  | ((with_reducible refine' RC.len ?h ?_); (case h => walk_at "rl"))
  | ((with_reducible refine' RC.lenT ?h ?_); (case h => walk_at "rt"))
  | ((with_reducible refine' RC.lenS ?h ?_); (case h => walk_at "ok"))
  | with_reducible refine RC.abs ?_
  | with_reducible refine RC.max2 ?_
  | with_reducible refine RC.min2 ?_
  | ((with_reducible refine' RC.listL ?h ?_); (case h => walk_at "rl"))
  | (with_reducible refine W.lst0 ?_)
  | (with_reducible refine W.lst1 ?_)
  | (with_reducible refine W.lst ?_)
  | (with_reducible refine W.tup ?_)
  | (with_reducible refine W.sl ?_)
  | (with_reducible refine WO.no ?_)
  | (with_reducible refine WO.part ?_)
  | ((with_reducible refine' RS.take ?h ?h2 ?_); (case h => walk_at "rl"); (case h2 => walk_at "ok"))
  | ((with_reducible refine' RS.drop ?h ?h2 ?_); (case h => walk_at "rl"); (case h2 => walk_at "ok"))
  | with_reducible refine RC.isiII ?_
  | with_reducible refine RC.isiIB ?_
  | ((with_reducible refine' RC.isiLL ?h ?_); (case h => walk_at "rx"))
  | ((with_reducible refine' RC.isiTT ?h ?_); (case h => walk_at "rx"))
  | with_reducible refine WT.test ?_
  | with_reducible refine WT.b ?_
  | with_reducible refine WT.not ?_
  | with_reducible refine WT.and ?_
  | with_reducible refine WT.or ?_
  | with_reducible refine W.andV ?_
  | with_reducible refine W.orV ?_
  | with_reducible refine W.notV ?_
  | with_reducible refine W.chain ?_
  | with_reducible refine S.seq ?_
  | ((with_reducible refine Un.nx ?_); (with_reducible refine UU.zero ?_))
  | ((with_reducible refine Un.nx ?_); (with_reducible refine UU.succ ?_))
  | with_reducible refine UU.succ ?_
  | with_reducible refine UU.zero ?_
  | with_reducible refine S.asg ?_
  | with_reducible refine S.dropS ?_
  | with_reducible refine S.ret ?_
  | with_reducible refine S.next ?_
  | (with_reducible refine ⟨_, rfl, ?_⟩)
  | refine And.intro (fun _ => ?_) (fun h => Bool.noConfusion h)
  | refine And.intro (fun h => Bool.noConfusion h) (fun _ => ?_))
local macro_rules | `(tactic| walk_at "w") => `(tactic| (repeat walk_at "w1"))
local macro_rules | `(tactic| walk_at "w0") => `(tactic| (repeat walk_at "v1"))
local macro_rules | `(tactic| walk_at "if") => `(tactic| (refine And.intro (fun hb => ?_) (fun hb => ?_) <;> (try simp only [decide_eq_true_eq, decide_eq_false_iff_not, Bool.not_eq_true', Bool.not_eq_false', Bool.false_eq_true, Bool.true_eq_false, Bool.not_true, Bool.not_false, eq_self, not_true_eq_false, not_false_eq_true, ne_eq] at hb)))
local macro_rules | `(tactic| walk_at "fin") => `(tactic| first
  | exact NR.sub (by assumption) (by walk_at "sub")
  | exact NR.sub (by first | assumption | (apply_assumption)) (by walk_at "sub"))
local macro_rules | `(tactic| walk_at "d") => `(tactic| (try dsimp only [List.set, wipe, List.map]))
local macro_rules | `(tactic| walk_at "lp") => `(tactic| refine Lp.nx ?_)
local macro_rules | `(tactic| walk_at "app") => `(tactic| ((with_reducible refine S.app ?_); (walk_at "w0"); (first | refine ⟨⟨_, by walk_at "rl"⟩, ?_⟩ | refine ⟨_, rfl, ⟨_, by walk_at "rl"⟩, ?_⟩); (walk_at "w0"); (first | refine ⟨_, 0, rfl, ?_, ?_⟩ | refine ⟨_, 1, rfl, ?_, ?_⟩ | refine ⟨_, 2, rfl, ?_, ?_⟩ | refine ⟨_, 3, rfl, ?_, ?_⟩ | refine ⟨_, 4, rfl, ?_, ?_⟩ | refine ⟨_, 5, rfl, ?_, ?_⟩ | refine ⟨_, 6, rfl, ?_, ?_⟩ | refine ⟨_, 7, rfl, ?_, ?_⟩ | refine ⟨_, 8, rfl, ?_, ?_⟩ | refine ⟨_, 9, rfl, ?_, ?_⟩ | refine ⟨_, 10, rfl, ?_, ?_⟩ | refine ⟨_, 11, rfl, ?_, ?_⟩ | refine ⟨_, 12, rfl, ?_, ?_⟩ | refine ⟨_, 13, rfl, ?_, ?_⟩ | refine ⟨_, 14, rfl, ?_, ?_⟩ | refine ⟨_, 15, rfl, ?_, ?_⟩ | refine ⟨_, 16, rfl, ?_, ?_⟩ | refine ⟨_, 17, rfl, ?_, ?_⟩ | refine ⟨_, 18, rfl, ?_, ?_⟩ | refine ⟨_, 19, rfl, ?_, ?_⟩ | refine ⟨_, 20, rfl, ?_, ?_⟩ | refine ⟨_, 21, rfl, ?_, ?_⟩ | refine ⟨_, 22, rfl, ?_, ?_⟩ | refine ⟨_, 23, rfl, ?_, ?_⟩)))
local macro_rules | `(tactic| walk_at "set1") => `(tactic| first | refine ⟨_, _, _, 0, rfl, rfl, rfl, ?_, ?_⟩ | refine ⟨_, _, _, 1, rfl, rfl, rfl, ?_, ?_⟩ | refine ⟨_, _, _, 2, rfl, rfl, rfl, ?_, ?_⟩ | refine ⟨_, _, _, 3, rfl, rfl, rfl, ?_, ?_⟩ | refine ⟨_, _, _, 4, rfl, rfl, rfl, ?_, ?_⟩ | refine ⟨_, _, _, 5, rfl, rfl, rfl, ?_, ?_⟩ | refine ⟨_, _, _, 6, rfl, rfl, rfl, ?_, ?_⟩ | refine ⟨_, _, _, 7, rfl, rfl, rfl, ?_, ?_⟩ | refine ⟨_, _, _, 8, rfl, rfl, rfl, ?_, ?_⟩ | refine ⟨_, _, _, 9, rfl, rfl, rfl, ?_, ?_⟩ | refine ⟨_, _, _, 10, rfl, rfl, rfl, ?_, ?_⟩ | refine ⟨_, _, _, 11, rfl, rfl, rfl, ?_, ?_⟩ | refine ⟨_, _, _, 12, rfl, rfl, rfl, ?_, ?_⟩ | refine ⟨_, _, _, 13, rfl, rfl, rfl, ?_, ?_⟩ | refine ⟨_, _, _, 14, rfl, rfl, rfl, ?_, ?_⟩ | refine ⟨_, _, _, 15, rfl, rfl, rfl, ?_, ?_⟩ | refine ⟨_, _, _, 16, rfl, rfl, rfl, ?_, ?_⟩ | refine ⟨_, _, _, 17, rfl, rfl, rfl, ?_, ?_⟩ | refine ⟨_, _, _, 18, rfl, rfl, rfl, ?_, ?_⟩ | refine ⟨_, _, _, 19, rfl, rfl, rfl, ?_, ?_⟩ | refine ⟨_, _, _, 20, rfl, rfl, rfl, ?_, ?_⟩ | refine ⟨_, _, _, 21, rfl, rfl, rfl, ?_, ?_⟩ | refine ⟨_, _, _, 22, rfl, rfl, rfl, ?_, ?_⟩ | refine ⟨_, _, _, 23, rfl, rfl, rfl, ?_, ?_⟩)
local macro_rules | `(tactic| walk_at "un") => `(tactic| refine Un.nx ?_)
def topS (i : Nat) : Stmt := PySem.Challenge.pw_polyarith_k08_quotient.main.body.getD i (.Pass ⟨0, 0, 0, 0⟩)
abbrev s_greatest : Stmt := topS 1
theorem sc_greatest : FnScope ["one", "other", "rest"] ["one", "other"] (defScope s_greatest) := ⟨rfl, rfl, rfl, by decide +kernel, rfl, by decide +kernel, by decide +kernel⟩
abbrev s_trimmed : Stmt := topS 7
theorem sc_trimmed : FnScope ["row", "size"] ["row"] (defScope s_trimmed) := ⟨rfl, rfl, rfl, by decide +kernel, rfl, by decide +kernel, by decide +kernel⟩
abbrev s_divided : Stmt := topS 9
theorem sc_divided : FnScope ["row", "by", "many", "found", "rest", "step", "place", "top", "more", "k", "number"] ["row", "by"] (defScope s_divided) := ⟨rfl, rfl, rfl, by decide +kernel, rfl, by decide +kernel, by decide +kernel⟩
abbrev s_quotient : Stmt := topS 10
theorem sc_quotient : FnScope ["row", "by", "told"] ["row", "by"] (defScope s_quotient) := ⟨rfl, rfl, rfl, by decide +kernel, rfl, by decide +kernel, by decide +kernel⟩
abbrev s__law_whole : Stmt := topS 12
theorem sc__law_whole : FnScope ["_law_found"] ["_law_found"] (defScope s__law_whole) := ⟨rfl, rfl, rfl, by decide +kernel, rfl, by decide +kernel, by decide +kernel⟩
abbrev s__law_cell_at : Stmt := topS 13
theorem sc__law_cell_at : FnScope ["_law_script", "_law_k"] ["_law_script", "_law_k"] (defScope s__law_cell_at) := ⟨rfl, rfl, rfl, by decide +kernel, rfl, by decide +kernel, by decide +kernel⟩
abbrev s__law_trim : Stmt := topS 14
theorem sc__law_trim : FnScope ["_law_row", "_law_size"] ["_law_row"] (defScope s__law_trim) := ⟨rfl, rfl, rfl, by decide +kernel, rfl, by decide +kernel, by decide +kernel⟩
abbrev s__law_same : Stmt := topS 15
theorem sc__law_same : FnScope ["_law_found", "_law_due", "_law_k"] ["_law_found", "_law_due"] (defScope s__law_same) := ⟨rfl, rfl, rfl, by decide +kernel, rfl, by decide +kernel, by decide +kernel⟩
abbrev s__law_number : Stmt := topS 16
theorem sc__law_number : FnScope ["_law_cell"] ["_law_cell"] (defScope s__law_number) := ⟨rfl, rfl, rfl, by decide +kernel, rfl, by decide +kernel, by decide +kernel⟩
abbrev s__law_drawn : Stmt := topS 17
theorem sc__law_drawn : FnScope ["_law_script", "_law_place", "_law_size", "_law_many", "_law_row", "_law_k"] ["_law_script", "_law_place", "_law_size", "_law_many"] (defScope s__law_drawn) := ⟨rfl, rfl, rfl, by decide +kernel, rfl, by decide +kernel, by decide +kernel⟩
abbrev s__law_times : Stmt := topS 18
theorem sc__law_times : FnScope ["_law_ones", "_law_others", "_law_found", "_law_j", "_law_k"] ["_law_ones", "_law_others"] (defScope s__law_times) := ⟨rfl, rfl, rfl, by decide +kernel, rfl, by decide +kernel, by decide +kernel⟩
abbrev s__law_quotient : Stmt := topS 19
theorem sc__law_quotient : FnScope ["_law_row", "_law_by", "_law_rest", "_law_found", "_law_step", "_law_place", "_law_top", "_law_k"] ["_law_row", "_law_by"] (defScope s__law_quotient) := ⟨rfl, rfl, rfl, by decide +kernel, rfl, by decide +kernel, by decide +kernel⟩
abbrev s__law_told : Stmt := topS 20
theorem sc__law_told : FnScope ["_law_row", "_law_by"] ["_law_row", "_law_by"] (defScope s__law_told) := ⟨rfl, rfl, rfl, by decide +kernel, rfl, by decide +kernel, by decide +kernel⟩
abbrev s__law_refused : Stmt := topS 21
theorem sc__law_refused : FnScope ["_law_row", "_law_by", "e"] ["_law_row", "_law_by"] (defScope s__law_refused) := ⟨rfl, rfl, rfl, by decide +kernel, rfl, by decide +kernel, by decide +kernel⟩
abbrev s_law : Stmt := topS 22
theorem sc_law : FnScope ["_law_script", "_law_first", "_law_second", "_law_many", "_law_third", "_law_by", "_law_row", "_law_place", "_law_handed", "_law_found", "_law_due", "_law_number_here"] ["_law_script"] (defScope s_law) := ⟨rfl, rfl, rfl, by decide +kernel, rfl, by decide +kernel, by decide +kernel⟩
structure Txt (K : PySem.W.Frag) (mg : Str → Option Value) where
  a_greatest : Addr
  d_greatest : FuncData
  F_greatest : Fun K "greatest" "greatest" s_greatest a_greatest d_greatest
  m_greatest : mg "greatest" = some (.ref a_greatest)
  b_greatest : Binds K d_greatest ["one", "other"] []
  a_trimmed : Addr
  d_trimmed : FuncData
  F_trimmed : Fun K "trimmed" "trimmed" s_trimmed a_trimmed d_trimmed
  m_trimmed : mg "trimmed" = some (.ref a_trimmed)
  b_trimmed : Binds K d_trimmed ["row"] []
  a_divided : Addr
  d_divided : FuncData
  F_divided : Fun K "divided" "divided" s_divided a_divided d_divided
  m_divided : mg "divided" = some (.ref a_divided)
  b_divided : Binds K d_divided ["row", "by"] []
  a_quotient : Addr
  d_quotient : FuncData
  F_quotient : Fun K "quotient" "quotient" s_quotient a_quotient d_quotient
  m_quotient : mg "quotient" = some (.ref a_quotient)
  b_quotient : Binds K d_quotient ["row", "by"] []
  a__law_whole : Addr
  d__law_whole : FuncData
  F__law_whole : Fun K "_law_whole" "_law_whole" s__law_whole a__law_whole d__law_whole
  m__law_whole : mg "_law_whole" = some (.ref a__law_whole)
  b__law_whole : Binds K d__law_whole ["_law_found"] []
  a__law_cell_at : Addr
  d__law_cell_at : FuncData
  F__law_cell_at : Fun K "_law_cell_at" "_law_cell_at" s__law_cell_at a__law_cell_at d__law_cell_at
  m__law_cell_at : mg "_law_cell_at" = some (.ref a__law_cell_at)
  b__law_cell_at : Binds K d__law_cell_at ["_law_script", "_law_k"] []
  a__law_trim : Addr
  d__law_trim : FuncData
  F__law_trim : Fun K "_law_trim" "_law_trim" s__law_trim a__law_trim d__law_trim
  m__law_trim : mg "_law_trim" = some (.ref a__law_trim)
  b__law_trim : Binds K d__law_trim ["_law_row"] []
  a__law_same : Addr
  d__law_same : FuncData
  F__law_same : Fun K "_law_same" "_law_same" s__law_same a__law_same d__law_same
  m__law_same : mg "_law_same" = some (.ref a__law_same)
  b__law_same : Binds K d__law_same ["_law_found", "_law_due"] []
  a__law_number : Addr
  d__law_number : FuncData
  F__law_number : Fun K "_law_number" "_law_number" s__law_number a__law_number d__law_number
  m__law_number : mg "_law_number" = some (.ref a__law_number)
  b__law_number : Binds K d__law_number ["_law_cell"] []
  a__law_drawn : Addr
  d__law_drawn : FuncData
  F__law_drawn : Fun K "_law_drawn" "_law_drawn" s__law_drawn a__law_drawn d__law_drawn
  m__law_drawn : mg "_law_drawn" = some (.ref a__law_drawn)
  b__law_drawn : Binds K d__law_drawn ["_law_script", "_law_place", "_law_size", "_law_many"] []
  a__law_times : Addr
  d__law_times : FuncData
  F__law_times : Fun K "_law_times" "_law_times" s__law_times a__law_times d__law_times
  m__law_times : mg "_law_times" = some (.ref a__law_times)
  b__law_times : Binds K d__law_times ["_law_ones", "_law_others"] []
  a__law_quotient : Addr
  d__law_quotient : FuncData
  F__law_quotient : Fun K "_law_quotient" "_law_quotient" s__law_quotient a__law_quotient d__law_quotient
  m__law_quotient : mg "_law_quotient" = some (.ref a__law_quotient)
  b__law_quotient : Binds K d__law_quotient ["_law_row", "_law_by"] []
  a__law_told : Addr
  d__law_told : FuncData
  F__law_told : Fun K "_law_told" "_law_told" s__law_told a__law_told d__law_told
  m__law_told : mg "_law_told" = some (.ref a__law_told)
  b__law_told : Binds K d__law_told ["_law_row", "_law_by"] []
  a__law_refused : Addr
  d__law_refused : FuncData
  F__law_refused : Fun K "_law_refused" "_law_refused" s__law_refused a__law_refused d__law_refused
  m__law_refused : mg "_law_refused" = some (.ref a__law_refused)
  b__law_refused : Binds K d__law_refused ["_law_row", "_law_by"] []
  a_law : Addr
  d_law : FuncData
  F_law : Fun K "law" "law" s_law a_law d_law
  m_law : mg "law" = some (.ref a_law)
  b_law : Binds K d_law ["_law_script"] []
  A_PolyError : Addr
  e_PolyError : Err K mg "PolyError" A_PolyError
  A_ByNought : Addr
  e_ByNought : Err K mg "ByNought" A_ByNought
  A_NotWhole : Addr
  e_NotWhole : Err K mg "NotWhole" A_NotWhole
  u_ByNought_PolyError : PySem.W.exmOne K (.ref A_ByNought) (.ref A_PolyError) = some true
  u_NotWhole_PolyError : PySem.W.exmOne K (.ref A_NotWhole) (.ref A_PolyError) = some true
  u_ByNought_ByNought : PySem.W.exmOne K (.ref A_ByNought) (.ref A_ByNought) = some true
  u_NotWhole_ByNought : PySem.W.exmOne K (.ref A_NotWhole) (.ref A_ByNought) = some false
  u_NotWhole_NotWhole : PySem.W.exmOne K (.ref A_NotWhole) (.ref A_NotWhole) = some true
  z_ValueError : mg "ValueError" = none
  z_abs : mg "abs" = none
  z_bool : mg "bool" = none
  z_int : mg "int" = none
  z_isinstance : mg "isinstance" = none
  z_len : mg "len" = none
  z_list : mg "list" = none
  z_max : mg "max" = none
  z_min : mg "min" = none
  z_range : mg "range" = none

section
variable {P : Program} {w : World} {K : PySem.W.Frag} {mg : Str → Option Value} {base : Heap}
def sp_trimmed : Sp := fun vs H Q _ => ∃ (a : Addr) (xs : List Int), vs = [.ref a] ∧ H a = some (.lst (zV xs)) ∧ xs.length ≤ 100000 ∧ ∀ p, NR Q (.ref p) H [(p, .lst (zV (trim xs)))]
theorem WC_trimmed {H0 : Hp} {fs : Fs} {Φ : CV} {a : Addr} {xs : List Int} (h : Rx H0 fs a (.lst (zV xs))) (hl : xs.length ≤ 100000) (q : ∀ p, Φ (.ref p) ((p, .lst (zV (trim xs))) :: fs)) : WC sp_trimmed [.ref a] H0 fs Φ :=
  fun H k Q E c => ⟨a, xs, rfl, h H k, hl, fun p H' k' => c _ _ _ (k.app k') (q p)⟩
theorem ok_trimmed (T : Txt K mg) : FnOk P w K mg base CX0 1 T.a_trimmed T.d_trimmed ["row"] sp_trimmed := by
  refine T.F_trimmed.ok sc_trimmed (fun vs H Q E h => ?_) (fun cdv A outer s H vs Q E hr h => ?_)
  · obtain ⟨a, xs, rfl, _⟩ := h; rfl
  · obtain ⟨a, xs, rfl, hA, hl, q⟩ := h
    refine ⟨_, (pss_cons (ps_set (i := 1) sc_trimmed.nd rfl (Or.inl rfl) (pe_callB cLen (by rfl) T.z_len PySem.boot_len (pa_cons (pv 0) pa_nil)))
      (pss_cons (ps_while PassesOwn.never (PW.pt (pw_and (pt_cmpR op_gt (pv 1) pe_int (nomark _)) (pw_and1 (pt_cmpR op_eq (pe_ix ix_list (pv 0) (pe_op op_sub (pv 1) pe_int) (fun _ _ => rfl)) pe_int (nomark _))))) (pss_one (ps_set (i := 1) sc_trimmed.nd rfl (Or.inl rfl) (pe_op op_sub (pv 1) pe_int))))
      (pss_one (ps_ret (pe_slice sl_list (pv 0) po_none (po_some (pv 1))))))), ?_⟩
    refine N.go (σ := [some (.ref a), none]) ?_
    walk_at "w"
    refine S.while_ (fun m σ f => σ = [some (.ref a), some (.int (m : Int))] ∧ f = [] ∧ m ≤ xs.length ∧ trim xs = trim (xs.take m)) xs.length ⟨rfl, rfl, Nat.le_refl _, by rw [List.take_length]⟩ ?_
    rintro m σ f ⟨rfl, rfl, hm, ht⟩
    walk_at "w"
    walk_at "if"
    · walk_at "w"
      walk_at "if"
      · -- one nought less
        walk_at "w"
        rename_i h1 h2
        have em : ((m : Int) - 1) = ((m - 1 : Nat) : Int) := by omega
        rw [em]
        refine Wl.nx (m' := m - 1) (by omega) ⟨rfl, rfl, by omega, ?_⟩
        rw [ht]
        have e2 : m = (m - 1) + 1 := by omega
        rw [em, gat_nat] at h2
        rw [e2, take_succ_getD (by omega : m - 1 < xs.length), h2, trim_zero]
        rfl
      · walk_at "w"
        rename_i h1 h2
        intro l
        have em : ((m : Int) - 1) = ((m - 1 : Nat) : Int) := by omega
        have e2 : m = (m - 1) + 1 := by omega
        rw [em, gat_nat] at h2
        have e3 : trim xs = xs.take m := by
          rw [ht, e2, take_succ_getD (by omega : m - 1 < xs.length), trim_last _ h2]
        rw [e3] at q
        have e4 : ((m : Int)).toNat = m := by simp
        rw [e4]
        exact NR.sub (q l) (by walk_at "sub")
    · walk_at "w"
      rename_i h1
      intro l
      have e0 : m = 0 := by omega
      subst e0
      have e3 : trim xs = [] := by rw [ht]; rfl
      rw [e3] at q
      exact NR.sub (q l) (by walk_at "sub")

end

section
variable {P : Program} {w : World} {K : PySem.W.Frag} {mg : Str → Option Value} {base : Heap}
def sp_greatest : Sp := fun vs H Q _ => ∃ (i j : Int), vs = [.int i, .int j] ∧ NR Q (.int (Nat.gcd i.natAbs j.natAbs : Nat)) H []
theorem WC_greatest {H0 : Hp} {fs : Fs} {Φ : CV} {i j : Int} (q : Φ (.int (Nat.gcd i.natAbs j.natAbs : Nat)) fs) : WC sp_greatest [.int i, .int j] H0 fs Φ :=
  fun H k Q E c => ⟨i, j, rfl, fun H' k' => c _ _ _ (k.app k') q⟩
theorem ok_greatest (T : Txt K mg) : FnOk P w K mg base CX0 1 T.a_greatest T.d_greatest ["one", "other"] sp_greatest := by
  refine T.F_greatest.ok sc_greatest (fun vs H Q E h => ?_) (fun cdv A outer s H vs Q E hr h => ?_)
  · obtain ⟨i, j, rfl, _⟩ := h; rfl
  · obtain ⟨i, j, rfl, q⟩ := h
    refine ⟨_, (pss_cons (ps_set (i := 0) sc_greatest.nd rfl (Or.inl rfl) (pe_callB cAbs (by rfl) T.z_abs (by decide +kernel) (pa_cons (pv 0) pa_nil)))
      (pss_cons (ps_set (i := 1) sc_greatest.nd rfl (Or.inl rfl) (pe_callB cAbs (by rfl) T.z_abs (by decide +kernel) (pa_cons (pv 1) pa_nil)))
      (pss_cons (ps_while PassesOwn.never (pt_cmpR op_gt (pv 1) pe_int (nomark _)) (pss_cons (ps_set (i := 2) sc_greatest.nd rfl (Or.inl rfl) (pe_op op_mod (pv 0) (pv 1)))
      (pss_cons (ps_set (i := 0) sc_greatest.nd rfl (Or.inl rfl) (pv 1))
      (pss_one (ps_set (i := 1) sc_greatest.nd rfl (Or.inl rfl) (pv 2))))))
      (pss_one (ps_ret (pv 0)))))), ?_⟩
    refine N.go (σ := [some (.int i), some (.int j), none]) ?_
    walk_at "w"
    walk_at "d"
    walk_at "w"
    walk_at "d"
    walk_at "w"
    refine S.while_ (fun m σ f => ∃ x z, σ = [some (.int ((x : Nat) : Int)), some (.int (m : Int)), z] ∧ f = [] ∧ Nat.gcd x m = Nat.gcd i.natAbs j.natAbs) j.natAbs ⟨i.natAbs, none, rfl, rfl, rfl⟩ ?_
    rintro m σ f ⟨x, z, rfl, rfl, hg⟩
    walk_at "w"
    walk_at "if"
    · rename_i hp
      have hm : 0 < m := by omega
      walk_at "w"
      walk_at "d"
      walk_at "w"
      walk_at "d"
      walk_at "w"
      walk_at "d"
      have e : ((x : Int) % (m : Int)) = ((x % m : Nat) : Int) := (Int.natCast_emod x m).symm
      rw [e]
      refine Wl.nx (m' := x % m) (Nat.mod_lt _ hm) ⟨m, _, rfl, rfl, ?_⟩
      rw [← hg, Nat.gcd_comm x m, Nat.gcd_rec m x, Nat.gcd_comm]
    · rename_i hp
      have hm : m = 0 := by omega
      subst hm
      rw [Nat.gcd_zero_right] at hg
      walk_at "w"
      rw [hg]
      exact NR.sub q (by walk_at "sub")

end

section
variable {P : Program} {w : World} {K : PySem.W.Frag} {mg : Str → Option Value} {base : Heap}
def sp_divided : Sp := fun vs H Q _ => ∃ (a b : Addr) (xs ys : List Int) (A B : Nat), vs = [.ref a, .ref b] ∧ H a = some (.lst (zV xs)) ∧ H b = some (.lst (zV ys)) ∧ (xs.length ≤ 40000 ∧ ys.length ≤ 40000) ∧ Tr ys ∧ ys ≠ [] ∧ BdL A xs ∧ BdL B ys ∧ (B ≤ 9000) ∧ A + (xs.length + 2 - ys.length) * (B + 1) + B + 1 ≤ 134217728 ∧
  ∀ (m : Int) (q r : List Int), Dv xs ys m q r → Bd ((xs.length + 1 - ys.length) * B + 1) m → BdL (A + (xs.length + 1 - ys.length) * (B + 1)) q → BdL (A + (xs.length + 1 - ys.length) * (B + 1)) r → q.length ≤ xs.length + 1 - ys.length → ∀ p1 p2 p, NR Q (.ref p) H [(p, .tup [.int m, .ref p1, .ref p2]), (p2, .lst (zV r)), (p1, .lst (zV q))]
theorem WC_divided {H0 : Hp} {fs : Fs} {Φ : CV} {a b : Addr} {xs ys : List Int} (A B : Nat) (h : Rx H0 fs a (.lst (zV xs))) (h2 : Rx H0 fs b (.lst (zV ys))) (hl : xs.length ≤ 40000 ∧ ys.length ≤ 40000) (ht : Tr ys) (hne : ys ≠ []) (hA : BdL A xs) (hB : BdL B ys) (hB9 : B ≤ 9000) (hAB : A + (xs.length + 2 - ys.length) * (B + 1) + B + 1 ≤ 134217728)
    (c : ∀ (m : Int) (q r : List Int), Dv xs ys m q r → Bd ((xs.length + 1 - ys.length) * B + 1) m → BdL (A + (xs.length + 1 - ys.length) * (B + 1)) q → BdL (A + (xs.length + 1 - ys.length) * (B + 1)) r → q.length ≤ xs.length + 1 - ys.length → ∀ p1 p2 p, Φ (.ref p) ((p, .tup [.int m, .ref p1, .ref p2]) :: (p2, .lst (zV r)) :: (p1, .lst (zV q)) :: fs)) : WC sp_divided [.ref a, .ref b] H0 fs Φ :=
  fun H k Q E cc => ⟨a, b, xs, ys, A, B, rfl, h H k, h2 H k, hl, ht, hne, hA, hB, hB9, hAB, fun m q r d1 d2 d3 d4 d5 p1 p2 p H' k' => cc _ _ _ (k.app k') (c m q r d1 d2 d3 d4 d5 p1 p2 p)⟩
theorem ok_divided (T : Txt K mg) : FnOk P w K mg base CX0 2 T.a_divided T.d_divided ["row", "by"] sp_divided := by
  refine T.F_divided.ok sc_divided (fun vs H Q E h => ?_) (fun cdv A outer s H vs Q E hr h => ?_)
  · obtain ⟨a, b, xs, ys, A, B, rfl, _⟩ := h; rfl
  · obtain ⟨a, b, xs, ys, A, B, rfl, hXa, hXb, hl, ht, hne, hA, hB, hB9, hAB, c⟩ := h
    refine ⟨_, (pss_cons (ps_if (pt_cmpR (op_eqD hr.units) (pv 1) (pe_lst pa_nil) (nomark _)) (pss_one ps_never) pss_nil)
      (pss_cons (ps_set (i := 2) sc_divided.nd rfl (Or.inl rfl) pe_int)
      (pss_cons (ps_set (i := 3) sc_divided.nd rfl (Or.inl rfl) (pe_op op_rep (pe_lst (pa_cons pe_int pa_nil)) (pe_callB (cMax2 rfl) (by rfl) T.z_max (by decide +kernel) (pa_cons pe_int (pa_cons (pe_op op_add (pe_op op_sub (pe_callB cLen (by rfl) T.z_len PySem.boot_len (pa_cons (pv 0) pa_nil)) (pe_callB cLen (by rfl) T.z_len PySem.boot_len (pa_cons (pv 1) pa_nil))) pe_int) pa_nil)))))
      (pss_cons (ps_set (i := 4) sc_divided.nd rfl (Or.inl rfl) (pe_callTy cListOf (by rfl) T.z_list (by decide +kernel) (pa_cons (pv 0) pa_nil)))
      (pss_cons (ps_for PassesOwn.never rfl (pi_range1 rfl T.z_range (pa_cons (pe_callB cLen (by rfl) T.z_len PySem.boot_len (pa_cons (pv 3) pa_nil)) pa_nil)) (pg_name (i := 5) sc_divided.nd rfl (Or.inl rfl)) (pss_cons (ps_set (i := 6) sc_divided.nd rfl (Or.inl rfl) (pe_op op_sub (pe_op op_sub (pe_callB cLen (by rfl) T.z_len PySem.boot_len (pa_cons (pv 3) pa_nil)) pe_int) (pv 5)))
      (pss_cons (ps_set (i := 7) sc_divided.nd rfl (Or.inl rfl) (pe_ix ix_list (pv 4) (pe_op op_sub (pe_op op_add (pv 6) (pe_callB cLen (by rfl) T.z_len PySem.boot_len (pa_cons (pv 1) pa_nil))) pe_int) (fun _ _ => rfl)))
      (pss_one (ps_if (pt_cmpR op_ne (pv 7) pe_int (nomark _)) (pss_cons (ps_set (i := 8) sc_divided.nd rfl (Or.inr rfl) (pe_op op_fdivG (pe_callB cAbs (by rfl) T.z_abs (by decide +kernel) (pa_cons (pe_ix ix_list (pv 1) (pe_un un_neg pe_int) (fun _ _ => rfl)) pa_nil)) (pe_call (ok_greatest T) (hr.mono (by decide)) (by rfl) T.m_greatest T.F_greatest.kp T.b_greatest .nil pass0 (pa_cons (pe_ix ix_list (pv 1) (pe_un un_neg pe_int) (fun _ _ => rfl)) (pa_cons (pv 7) pa_nil)))))
      (pss_cons (ps_set (i := 2) sc_divided.nd rfl (Or.inl rfl) (pe_op op_mulG (pv 2) (pv 8)))
      (pss_cons (ps_setLc (i := 3) (own := [("number", 10)]) (g := gName 10) (tt := tYes) rfl sc_divided.nd rfl rfl (sw_true rfl rfl rfl (by decide +kernel)) (pi_list (pv 3)) (blkOk_by (own := [("number", 10)]) (N := ["row", "by", "many", "found", "rest", "step", "place", "top", "more", "k", "number"]) (sc := defScope s_divided) (by decide +kernel)) (fun _ _ _ _ _ => pg_name (i := 10) sc_divided.nd rfl (Or.inl rfl)) (fun _ _ _ _ _ => pts_nil) (fun _ _ _ _ _ => (pe_op op_mulG (pv 8) (pv 10))))
      (pss_cons (ps_setLc (i := 4) (own := [("number", 10)]) (g := gName 10) (tt := tYes) rfl sc_divided.nd rfl rfl (sw_true rfl rfl rfl (by decide +kernel)) (pi_list (pv 4)) (blkOk_by (own := [("number", 10)]) (N := ["row", "by", "many", "found", "rest", "step", "place", "top", "more", "k", "number"]) (sc := defScope s_divided) (by decide +kernel)) (fun _ _ _ _ _ => pg_name (i := 10) sc_divided.nd rfl (Or.inl rfl)) (fun _ _ _ _ _ => pts_nil) (fun _ _ _ _ _ => (pe_op op_mulG (pv 8) (pv 10))))
      (pss_cons (ps_asg (pe_op op_fdivG (pe_op op_mulG (pv 8) (pv 7)) (pe_ix ix_list (pv 1) (pe_un un_neg pe_int) (fun _ _ => rfl))) (pg_sub (pv 3) (pv 6) set_list))
      (pss_one (ps_for PassesOwn.never rfl (pi_range1 rfl T.z_range (pa_cons (pe_callB cLen (by rfl) T.z_len PySem.boot_len (pa_cons (pv 1) pa_nil)) pa_nil)) (pg_name (i := 9) sc_divided.nd rfl (Or.inl rfl)) (pss_one (ps_asg (pe_op op_sub (pe_ix ix_list (pv 4) (pe_op op_add (pv 6) (pv 9)) (fun _ _ => rfl)) (pe_op op_mulG (pe_ix ix_list (pv 3) (pv 6) (fun _ _ => rfl)) (pe_ix ix_list (pv 1) (pv 9) (fun _ _ => rfl)))) (pg_sub (pv 4) (pe_op op_add (pv 6) (pv 9)) set_list)))))))))) pss_nil)))))
      (pss_one (ps_ret (pe_tup (pa_cons (pv 2) (pa_cons (pe_call (ok_trimmed T) (hr.mono (by decide)) (by rfl) T.m_trimmed T.F_trimmed.kp T.b_trimmed .nil pass0 (pa_cons (pv 3) pa_nil)) (pa_cons (pe_call (ok_trimmed T) (hr.mono (by decide)) (by rfl) T.m_trimmed T.F_trimmed.kp T.b_trimmed .nil pass0 (pa_cons (pv 4) pa_nil)) pa_nil))))))))))), ?_⟩
    refine N.go (σ := [some (.ref a), some (.ref b), none, none, none, none, none, none, none, none, none]) ?_
    have hy : 0 < ys.length := List.length_pos_iff.mpr hne
    obtain ⟨n, hn⟩ : ∃ n, n = xs.length + 1 - ys.length := ⟨_, rfl⟩
    rw [← hn] at c
    have hlc : S ys (ys.length - 1) = ys.getLast hne := by
      rw [S_at, List.getD_eq_getElem?_getD, List.getElem?_eq_getElem (by omega), List.getLast_eq_getElem]; rfl
    have hlc0 : S ys (ys.length - 1) ≠ 0 := by rw [hlc]; exact tr_last ht hne
    have hlast : atI (zV ys) (-1) = some (.int (S ys (ys.length - 1))) := by rw [hlc]; exact atI_lastI hne
    have hlcb : Bd B (S ys (ys.length - 1)) := hB.at _
    walk_at "w"
    intro z
    walk_at "w"
    rw [decide_eq_false hne]
    walk_at "w"
    walk_at "d"
    walk_at "w"
    intro l0
    walk_at "w"
    refine RW.rep (x := 0) (by walk_at "rx") (by omega) fun pf => ?_
    have en : (max 0 ((xs.length : Int) - (ys.length : Int) + 1)).toNat = n := by omega
    rw [en]
    walk_at "d"
    walk_at "w"
    intro pr
    walk_at "d"
    refine N.sub [(pr, .lst (zV xs)), (pf, .lst (zV (List.replicate n 0)))] (by walk_at "sub") ?_
    refine S.forR (n := (n : Int)) (fun t σ f => ∃ m fl rl pf pr y5 y6 y7 y8 y9, σ = [some (.ref a), some (.ref b), some (.int m), some (.ref pf), some (.ref pr), y5, y6, y7, y8, y9, none] ∧ f = [(pr, .lst (zV rl)), (pf, .lst (zV fl))] ∧ t ≤ n ∧ DI xs ys A B n t m fl rl) ?_ ?_ ?_
    · walk_at "w"
      rw [List.length_replicate]
      exact ⟨rfl, by omega, by omega, 1, _, xs, pf, pr, none, none, none, none, none, rfl, rfl, Nat.zero_le _, DI.start hn hA⟩
    · rintro t σ f ht' ⟨m, fl, rl, pf, pr, y5, y6, y7, y8, y9, rfl, rfl, _, hD⟩
      have htn : t < n := by omega
      have hfl := hD.fl
      have hrl := hD.rl
      have htB : t * (B + 1) ≤ n * (B + 1) := Nat.mul_le_mul_right _ (by omega)
      have htB2 : t * B ≤ t * (B + 1) := Nat.mul_le_mul_left _ (by omega)
      have hn2 : (xs.length + 2 - ys.length) * (B + 1) = n * (B + 1) + (B + 1) := by
        rw [show xs.length + 2 - ys.length = n + 1 by omega, Nat.succ_mul]
      rw [hn2] at hAB
      walk_at "d"
      walk_at "w"
      have eP : (fl.length : Int) - 1 - (t : Int) = ((n - 1 - t : Nat) : Int) := by omega
      rw [eP]
      walk_at "d"
      walk_at "w"
      have eT : gat rl (((n - 1 - t : Nat) : Int) + (ys.length : Int) - 1) = S rl (n - 1 - t + ys.length - 1) := by
        rw [show ((n - 1 - t : Nat) : Int) + (ys.length : Int) - 1 = ((n - 1 - t + ys.length - 1 : Nat) : Int) by omega, gat_nat]; rfl
      rw [eT]
      walk_at "d"
      walk_at "w"
      walk_at "if"
      · rename_i htop
        have hD' := hD.step htn hn hy hB hlc0 htop
        obtain ⟨s1, s2, s3, s4, s5⟩ := step_facts hlc0 htop
        have htb : (S rl (n - 1 - t + ys.length - 1)).natAbs < 2 ^ (A + t * (B + 1)) := hD.rb.at _
        have hg0 : 0 < Nat.gcd (S ys (ys.length - 1)).natAbs (S rl (n - 1 - t + ys.length - 1)).natAbs := Nat.gcd_pos_of_pos_left _ (Int.natAbs_pos.mpr hlc0)
        have hdv : CDivG ((S ys (ys.length - 1)).natAbs : Int) ((Nat.gcd (S ys (ys.length - 1)).natAbs (S rl (n - 1 - t + ys.length - 1)).natAbs : Nat) : Int) :=
          CDivG.bits (b := B) (by omega) (by rw [Int.natAbs_natCast]; exact Nat.lt_of_le_of_lt (Nat.gcd_le_left _ (Int.natAbs_pos.mpr hlc0)) hlcb) hB9
        have hdv2 : CDivG (more (S ys (ys.length - 1)) (S rl (n - 1 - t + ys.length - 1)) * S rl (n - 1 - t + ys.length - 1)) (S ys (ys.length - 1)) := CDivG.bits hlc0 hlcb hB9
        walk_at "w"
        refine RW.ixL (by walk_at "rl") hlast ?_
        walk_at "w"
        refine RW.ixL (by walk_at "rl") hlast ?_
        walk_at "w"
        refine WC_greatest ?_
        walk_at "w"
        rw [show ((S ys (ys.length - 1)).natAbs : Int).fdiv (Nat.gcd (S ys (ys.length - 1)).natAbs (S rl (n - 1 - t + ys.length - 1)).natAbs : Nat) = more (S ys (ys.length - 1)) (S rl (n - 1 - t + ys.length - 1)) from rfl]
        obtain ⟨top, hto⟩ : ∃ x, x = S rl (n - 1 - t + ys.length - 1) := ⟨_, rfl⟩
        obtain ⟨lc, hlcd⟩ : ∃ x, x = S ys (ys.length - 1) := ⟨_, rfl⟩
        rw [← hto, ← hlcd] at hD' s1 s2 s3 s4 s5 hdv2 ⊢
        rw [← hto] at htb
        rw [← hlcd] at hlast hlcb hlc0
        obtain ⟨v, hv⟩ : ∃ v, v = putv lc top := ⟨_, rfl⟩
        rw [← hv] at hD' s3 s4 s5
        obtain ⟨mo, hmo⟩ : ∃ mo, mo = more lc top := ⟨_, rfl⟩
        rw [← hmo] at hD' s1 s2 s3 s5 hdv2 ⊢
        have hv2 : (mo * top).fdiv lc = v := by rw [hv, hmo]; rfl
        have hmob : Bd B mo := Nat.lt_of_le_of_lt s2 hlcb
        have hvb : Bd (A + t * (B + 1)) v := Nat.lt_of_le_of_lt s4 htb
        have hok1 : IntMulOk m mo := mulB hD.mb hmob (by omega)
        have hok3 : IntMulOk mo top := mulB hmob htb (by omega)
        walk_at "w"
        walk_at "d"
        refine W.lcZz (ns := fl) (fun x => mo * x) ?_
        walk_at "w"
        refine ⟨by walk_at "rl", by omega, fun _ => rfl, fun x D acc hx => ?_, fun D1 => ?_⟩
        · walk_at "d"
          have hok : IntMulOk mo x := mulB hmob (hD.fb x hx) (by omega)
          walk_at "w"
          exact ⟨rfl, by walk_at "sub"⟩
        walk_at "d"
        walk_at "w"
        refine W.lcZz (ns := rl) (fun x => mo * x) ?_
        walk_at "w"
        refine ⟨by walk_at "rl", by omega, fun _ => rfl, fun x D acc hx => ?_, fun D2 => ?_⟩
        · walk_at "d"
          have hok : IntMulOk mo x := mulB hmob (hD.rb x hx) (by omega)
          walk_at "w"
          exact ⟨rfl, by walk_at "sub"⟩
        walk_at "d"
        walk_at "w"
        refine S.setL ?_
        walk_at "w"
        refine RW.ixL (by walk_at "rl") hlast ?_
        walk_at "w"
        rw [hv2]
        walk_at "w"
        walk_at "set1"
        · rw [zV_length, List.length_map]; omega
        have eP2 : (((n - 1 - t : Nat) : Int)).toNat = n - 1 - t := by omega
        rw [eP2, zV_set]
        walk_at "d"
        generalize hF : (fl.map fun x => mo * x).set (n - 1 - t) v = fl' at hD'
        have hfl' : fl'.length = n := hD'.fl
        have hfv : gat fl' ((n - 1 - t : Nat) : Int) = v := by
          rw [gat_nat, ← hF, getD_set, if_pos rfl, if_pos (by rw [List.length_map]; omega)]
        generalize hR : (rl.map fun x => mo * x) = rl0 at hD'
        have hrl0 : rl0.length = xs.length := by rw [← hR, List.length_map]; exact hrl
        refine N.sub [(D2, .lst (zV rl0)), (D1, .lst (zV fl'))] (by walk_at "sub") ?_
        refine S.forR (n := (ys.length : Int)) (fun k σ f => ∃ y, σ = [some (.ref a), some (.ref b), some (.int (m * mo)), some (.ref D1), some (.ref D2), some (.int (t : Int)), some (.int ((n - 1 - t : Nat) : Int)), some (.int top), some (.int mo), y, none] ∧ f = [(D2, .lst (zV (lp (sbIn v ys (n - 1 - t)) k rl0))), (D1, .lst (zV fl'))]) ?_ ?_ ?_
        · walk_at "w"
          exact ⟨rfl, by omega, by omega, y9, rfl, rfl⟩
        · rintro k σ f hk ⟨y, rfl, rfl⟩
          walk_at "d"
          have hlen : (lp (sbIn v ys (n - 1 - t)) k rl0).length = xs.length := by
            rw [sbIn_eq, lp_len (fun i a => tmIn_len _ _ _ _ _)]; exact hrl0
          have hok : IntMulOk v (gat ys (k : Int)) := mulB hvb (hB.gat _) (by omega)
          refine S.setL ?_
          walk_at "w"
          rw [hfv]
          walk_at "w"
          walk_at "set1"
          · rw [zV_length, hlen]; omega
          have ei : (((n - 1 - t : Nat) : Int) + (k : Int)) = ((n - 1 - t + k : Nat) : Int) := by omega
          have e1 : (((n - 1 - t : Nat) : Int) + (k : Int)).toNat = n - 1 - t + k := by omega
          rw [e1, zV_set, ei, gat_nat, gat_nat]
          walk_at "d"
          walk_at "lp"
          exact ⟨_, rfl, rfl⟩
        · rintro σ f ⟨y, rfl, rfl⟩
          have ek : ((ys.length : Int)).toNat = ys.length := by simp
          rw [ek]
          walk_at "lp"
          exact ⟨m * mo, fl', _, D1, D2, _, _, _, _, _, rfl, rfl, htn, hD'⟩
      · rename_i htop
        walk_at "w"
        walk_at "lp"
        exact ⟨m, fl, rl, pf, pr, _, _, _, _, _, rfl, rfl, htn, hD.skip htn hy htop⟩
    · rintro σ f ⟨m, fl, rl, pf, pr, y5, y6, y7, y8, y9, rfl, rfl, _, hD⟩
      have ek : ((n : Int)).toNat = n := by simp
      rw [ek] at hD
      have hD' := hD.dv hy
      have hfl := hD.fl
      have hrl := hD.rl
      walk_at "w"
      refine WC_trimmed (xs := fl) (by walk_at "rx") (by omega) fun p1 => ?_
      walk_at "w"
      refine WC_trimmed (xs := rl) (by walk_at "rx") (by omega) fun p2 => ?_
      walk_at "w"
      refine ⟨by simp, fun p => ?_⟩
      exact NR.sub (c m (trim fl) (trim rl) hD' hD.mb hD.fb.trim hD.rb.trim (Nat.le_trans (trim_length_le _) (by omega)) p1 p2 p) (by walk_at "sub")

end

section
variable {P : Program} {w : World} {K : PySem.W.Frag} {mg : Str → Option Value} {base : Heap}
/-- by nought -/
def sp_dividedX (C : Addr) : Sp := fun vs H Q E => ∃ (v : V) (b : Addr), vs = [v, .ref b] ∧ H b = some (.lst (zV [])) ∧ NE E (.ref C) none H []
theorem WC_dividedX {C : Addr} {H0 : Hp} {fs : Fs} {Ψ : Value → Option Addr → Fs → Prop} {v : V} {b : Addr} (h : Rx H0 fs b (.lst (zV []))) (q : Ψ (.ref C) none fs) : WCX (sp_dividedX C) [v, .ref b] H0 fs Ψ :=
  fun H k Q E c => ⟨v, b, rfl, h H k, fun H' k' => c _ _ _ _ (k.app k') q⟩
theorem okX_divided (T : Txt K mg) : FnOk P w K mg base (L2.CX P w) 2 T.a_divided T.d_divided ["row", "by"] (sp_dividedX T.A_ByNought) := by
  refine T.F_divided.okX sc_divided (fun vs H Q E h => ?_) (fun cdv A outer s H vs Q E hr h => ?_)
  · obtain ⟨v, b, rfl, _⟩ := h; rfl
  · obtain ⟨v, b, rfl, hb, q⟩ := h
    refine ⟨_, (pss_cons (ps_if (pt_cmpR (op_eqD hr.units) (pv 1) (pe_lst pa_nil) (nomark _)) (pss_one (ps_raise rfl (takes_of rfl rfl rfl rfl) (pmk_own PySem.F.excBase_ValueError T.e_ByNought.x T.e_ByNought.g T.e_ByNought.k (raises_own T.e_ByNought.b T.e_ByNought.t) (by rfl)))) pss_nil)
      pss_never), ?_⟩
    refine N.go (σ := [some v, some (.ref b), none, none, none, none, none, none, none, none, none]) ?_
    walk_at "w"
    intro z
    refine RW.eqZ (xs := []) (ys := []) (by walk_at "rl") (by walk_at "rl") ?_
    walk_at "w"
    exact fun H' k => q H' (k.sub (by walk_at "sub"))

end

section
variable {P : Program} {w : World} {K : PySem.W.Frag} {mg : Str → Option Value} {base : Heap}
def sp_quotient : Sp := fun vs H Q _ => ∃ (a b : Addr) (xs ys q : List Int) (A B : Nat), vs = [.ref a, .ref b] ∧ H a = some (.lst (zV xs)) ∧ H b = some (.lst (zV ys)) ∧ (xs.length ≤ 40000 ∧ ys.length ≤ 40000) ∧ Tr ys ∧ ys ≠ [] ∧ BdL A xs ∧ BdL B ys ∧ (B ≤ 9000) ∧ A + (xs.length + 2 - ys.length) * (B + 1) + B + 1 ≤ 134217728 ∧
  Whole xs ys q ∧ ∀ p, NR Q (.ref p) H [(p, .lst (zV q))]
theorem WC_quotient {H0 : Hp} {fs : Fs} {Φ : CV} {a b : Addr} {xs ys : List Int} (q : List Int) (A B : Nat) (h : Rx H0 fs a (.lst (zV xs))) (h2 : Rx H0 fs b (.lst (zV ys))) (hl : xs.length ≤ 40000 ∧ ys.length ≤ 40000) (ht : Tr ys) (hne : ys ≠ []) (hA : BdL A xs) (hB : BdL B ys) (hB9 : B ≤ 9000) (hAB : A + (xs.length + 2 - ys.length) * (B + 1) + B + 1 ≤ 134217728)
    (hw : Whole xs ys q) (c : ∀ p, Φ (.ref p) ((p, .lst (zV q)) :: fs)) : WC sp_quotient [.ref a, .ref b] H0 fs Φ :=
  fun H k Q E cc => ⟨a, b, xs, ys, q, A, B, rfl, h H k, h2 H k, hl, ht, hne, hA, hB, hB9, hAB, hw, fun p H' k' => cc _ _ _ (k.app k') (c p)⟩
theorem ok_quotient (T : Txt K mg) : FnOk P w K mg base CX0 3 T.a_quotient T.d_quotient ["row", "by"] sp_quotient := by
  refine T.F_quotient.ok sc_quotient (fun vs H Q E h => ?_) (fun cdv A outer s H vs Q E hr h => ?_)
  · obtain ⟨a, b, xs, ys, q, A, B, rfl, _⟩ := h; rfl
  · obtain ⟨a, b, xs, ys, q, A, B, rfl, hXa, hXb, hl, ht, hne, hA, hB, hB9, hAB, hw, c⟩ := h
    refine ⟨_, (pss_cons (ps_set (i := 2) sc_quotient.nd rfl (Or.inl rfl) (pe_call (ok_divided T) (hr.mono (by decide)) (by rfl) T.m_divided T.F_divided.kp T.b_divided .nil pass0 (pa_cons (pv 0) (pa_cons (pv 1) pa_nil))))
      (pss_cons (ps_if (PW.pt (pw_or (pt_cmpR op_ne (pe_ix ix_tup (pv 2) pe_int (fun _ _ => rfl)) pe_int (nomark _)) (pw_or1 (pt_cmpR (op_neD hr.units) (pe_ix ix_tup (pv 2) pe_int (fun _ _ => rfl)) (pe_lst pa_nil) (nomark _))))) (pss_one ps_never) pss_nil)
      (pss_one (ps_ret (pe_ix ix_tup (pv 2) pe_int (fun _ _ => rfl)))))), ?_⟩
    refine N.go (σ := [some (.ref a), some (.ref b), none]) ?_
    walk_at "w"
    refine WC_divided (xs := xs) (ys := ys) A B (by walk_at "rx") (by walk_at "rx") hl ht hne hA hB hB9 hAB fun m qq r hd b1 b2 b3 ql p1 p2 p => ?_
    obtain ⟨e1, e2, e3⟩ := hd.whole ht hne hw
    subst e1 e2 e3
    walk_at "d"
    walk_at "w"
    intro z
    walk_at "w"
    exact NR.sub (c p1) (by walk_at "sub")

end

section
variable {P : Program} {w : World} {K : PySem.W.Frag} {mg : Str → Option Value} {base : Heap}
/-- by nought -/
def sp_quotient1 (C : Addr) : Sp := fun vs H Q E => ∃ (v : V) (b : Addr), vs = [v, .ref b] ∧ H b = some (.lst (zV [])) ∧ NE E (.ref C) none H []
theorem okX1_quotient (T : Txt K mg) : FnOk P w K mg base (L2.CX P w) 3 T.a_quotient T.d_quotient ["row", "by"] (sp_quotient1 T.A_ByNought) := by
  refine T.F_quotient.okX sc_quotient (fun vs H Q E h => ?_) (fun cdv A outer s H vs Q E hr h => ?_)
  · obtain ⟨v, b, rfl, _⟩ := h; rfl
  · obtain ⟨v, b, rfl, hb, q⟩ := h
    refine ⟨_, (pss_cons (ps_set (i := 2) sc_quotient.nd rfl (Or.inl rfl) (pe_callS (okX_divided T) (hr.mono (by decide)) (by rfl) T.m_divided T.F_divided.kp T.b_divided (fun σ => passAt (takes_of rfl rfl rfl rfl) σ) (pa_cons (pv 0) (pa_cons (pv 1) pa_nil))))
      pss_never), ?_⟩
    refine N.go (σ := [some v, some (.ref b), none]) ?_
    walk_at "w"
    refine W.callX ?_
    walk_at "w"
    refine WC_dividedX (by walk_at "rx") ?_
    exact fun H' k => q H' k
/-- not whole -/
def sp_quotient2 (C : Addr) : Sp := fun vs H Q E => ∃ (a b : Addr) (xs ys : List Int) (A B : Nat), vs = [.ref a, .ref b] ∧ H a = some (.lst (zV xs)) ∧ H b = some (.lst (zV ys)) ∧ (xs.length ≤ 40000 ∧ ys.length ≤ 40000) ∧ Tr ys ∧ ys ≠ [] ∧ BdL A xs ∧ BdL B ys ∧ (B ≤ 9000) ∧ A + (xs.length + 2 - ys.length) * (B + 1) + B + 1 ≤ 134217728 ∧
  (∀ q, ¬ Whole xs ys q) ∧ NE E (.ref C) none H []
theorem okX2_quotient (T : Txt K mg) : FnOk P w K mg base (L2.CX P w) 3 T.a_quotient T.d_quotient ["row", "by"] (sp_quotient2 T.A_NotWhole) := by
  refine T.F_quotient.okX sc_quotient (fun vs H Q E h => ?_) (fun cdv A outer s H vs Q E hr h => ?_)
  · obtain ⟨a, b, xs, ys, A, B, rfl, _⟩ := h; rfl
  · obtain ⟨a, b, xs, ys, A, B, rfl, hXa, hXb, hl, ht, hne, hA, hB, hB9, hAB, hw, c⟩ := h
    refine ⟨_, (pss_cons (ps_set (i := 2) sc_quotient.nd rfl (Or.inl rfl) (pe_call (ok_divided T) (hr.mono (by decide)) (by rfl) T.m_divided T.F_divided.kp T.b_divided .nil pass0 (pa_cons (pv 0) (pa_cons (pv 1) pa_nil))))
      (pss_cons (ps_if (PW.pt (pw_or (pt_cmpR op_ne (pe_ix ix_tup (pv 2) pe_int (fun _ _ => rfl)) pe_int (nomark _)) (pw_or1 (pt_cmpR (op_neD hr.units) (pe_ix ix_tup (pv 2) pe_int (fun _ _ => rfl)) (pe_lst pa_nil) (nomark _))))) (pss_one (ps_raise rfl (takes_of rfl rfl rfl rfl) (pmk_own PySem.F.excBase_ValueError T.e_NotWhole.x T.e_NotWhole.g T.e_NotWhole.k (raises_own T.e_NotWhole.b T.e_NotWhole.t) (by rfl)))) pss_nil)
      pss_never)), ?_⟩
    refine N.go (σ := [some (.ref a), some (.ref b), none]) ?_
    walk_at "w"
    refine WC_divided (xs := xs) (ys := ys) A B (by walk_at "rx") (by walk_at "rx") hl ht hne hA hB hB9 hAB fun m qq r hd b1 b2 b3 ql p1 p2 p => ?_
    walk_at "d"
    walk_at "w"
    by_cases h1 : m = 1
    · by_cases h2 : r = []
      · subst h1 h2
        exact absurd hd.isWhole (hw _)
      · rw [decide_eq_true h1]
        walk_at "w"
        intro z
        walk_at "w"
        rw [decide_eq_false h2]
        walk_at "w"
        exact fun H' k => c H' (k.sub (by walk_at "sub"))
    · rw [decide_eq_false h1]
      walk_at "w"
      exact fun H' k => c H' (k.sub (by walk_at "sub"))
theorem FnOk.or {P : Program} {w : World} {K : PySem.W.Frag} {mg : Str → Option Value} {base : Heap} {CX : CXT} {k : Nat} {f : Addr} {fd : FuncData} {ps : List Str} {sp1 sp2 : Sp}
    (F1 : FnOk P w K mg base CX k f fd ps sp1) (F2 : FnOk P w K mg base CX k f fd ps sp2) : FnOk P w K mg base CX k f fd ps (fun vs H Q E => sp1 vs H Q E ∨ sp2 vs H Q E) :=
  ⟨fun vs H Q E h => h.elim (F1.len vs H Q E) (F2.len vs H Q E), fun A outer s H args us vs Q E hr he hb hv hs => hs.elim (F1.run A outer s H args us vs Q E hr he hb hv) (F2.run A outer s H args us vs Q E hr he hb hv)⟩
/-- all three ways -/
theorem okA_quotient (T : Txt K mg) : FnOk P w K mg base (L2.CX P w) 3 T.a_quotient T.d_quotient ["row", "by"] (fun vs H Q E => sp_quotient vs H Q E ∨ (sp_quotient1 T.A_ByNought vs H Q E ∨ sp_quotient2 T.A_NotWhole vs H Q E)) :=
  Pa.FnOk.both (ok_quotient T) (Pa.FnOk.or (okX1_quotient T) (okX2_quotient T))
def sp_quotientX (C D : Addr) : Sp := fun vs H Q E => sp_quotient vs H Q E ∨ (sp_quotient1 C vs H Q E ∨ sp_quotient2 D vs H Q E)
theorem okX_quotient (T : Txt K mg) : FnOk P w K mg base (L2.CX P w) 3 T.a_quotient T.d_quotient ["row", "by"] (sp_quotientX T.A_ByNought T.A_NotWhole) := okA_quotient T
theorem WCB_quotientX {C D : Addr} {H0 : Hp} {fs : Fs} {Φ : CV} {Ψ : Value → Option Addr → Fs → Prop} {a b : Addr} {xs ys : List Int} (q : List Int) (A B : Nat) (h : Rx H0 fs a (.lst (zV xs))) (h2 : Rx H0 fs b (.lst (zV ys))) (hl : xs.length ≤ 40000 ∧ ys.length ≤ 40000) (ht : Tr ys) (hne : ys ≠ []) (hA : BdL A xs) (hB : BdL B ys) (hB9 : B ≤ 9000) (hAB : A + (xs.length + 2 - ys.length) * (B + 1) + B + 1 ≤ 134217728)
    (hw : Whole xs ys q) (c : ∀ p, Φ (.ref p) ((p, .lst (zV q)) :: fs)) : WCB (sp_quotientX C D) [.ref a, .ref b] H0 fs Φ Ψ :=
  fun H k Q E cc _ => .inl ⟨a, b, xs, ys, q, A, B, rfl, h H k, h2 H k, hl, ht, hne, hA, hB, hB9, hAB, hw, fun p H' k' => cc _ _ _ (k.app k') (c p)⟩
theorem WCX1_quotientX {C D : Addr} {H0 : Hp} {fs : Fs} {Ψ : Value → Option Addr → Fs → Prop} {v : V} {b : Addr} (h2 : Rx H0 fs b (.lst (zV []))) (q : Ψ (.ref C) none fs) : WCX (sp_quotientX C D) [v, .ref b] H0 fs Ψ :=
  fun H k Q E c => .inr (.inl ⟨v, b, rfl, h2 H k, fun H' k' => c _ _ _ _ (k.app k') q⟩)
theorem WCX2_quotientX {C D : Addr} {H0 : Hp} {fs : Fs} {Ψ : Value → Option Addr → Fs → Prop} {a b : Addr} {xs ys : List Int} (A B : Nat) (h : Rx H0 fs a (.lst (zV xs))) (h2 : Rx H0 fs b (.lst (zV ys))) (hl : xs.length ≤ 40000 ∧ ys.length ≤ 40000) (ht : Tr ys) (hne : ys ≠ []) (hA : BdL A xs) (hB : BdL B ys) (hB9 : B ≤ 9000) (hAB : A + (xs.length + 2 - ys.length) * (B + 1) + B + 1 ≤ 134217728)
    (hw : ∀ q, ¬ Whole xs ys q) (q : Ψ (.ref D) none fs) : WCX (sp_quotientX C D) [.ref a, .ref b] H0 fs Ψ :=
  fun H k Q E c => .inr (.inr ⟨a, b, xs, ys, A, B, rfl, h H k, h2 H k, hl, ht, hne, hA, hB, hB9, hAB, hw, fun H' k' => c _ _ _ _ (k.app k') q⟩)

end

section
variable {P : Program} {w : World} {K : PySem.W.Frag} {mg : Str → Option Value} {base : Heap}
/-- on ints -/
def sp__law_whole : Sp := fun vs H Q _ => ∃ (i : Int), vs = [.int i] ∧ NR Q (.bl true) H []
theorem WC__law_whole {H0 : Hp} {fs : Fs} {Φ : CV} {i : Int} (q : Φ (.bl true) fs) : WC sp__law_whole [.int i] H0 fs Φ := fun H k Q E c => ⟨i, rfl, fun H' k' => c _ _ _ (k.app k') q⟩
theorem ok__law_whole (T : Txt K mg) : FnOk P w K mg base CX0 1 T.a__law_whole T.d__law_whole ["_law_found"] sp__law_whole := by
  refine T.F__law_whole.ok sc__law_whole (fun vs H Q E h => ?_) (fun cdv A outer s H vs Q E hr h => ?_)
  · obtain ⟨i, rfl, _⟩ := h; rfl
  · obtain ⟨i, rfl, q⟩ := h
    refine ⟨_, (pss_one (ps_ret (pe_and (pe_callB call_isi (by rfl) T.z_isinstance (by decide +kernel) (pa_cons (pv 0) (pa_cons (pe_bltn (v := .ty "int") (by rfl) T.z_int (by decide +kernel) rfl) pa_nil))) (pe_one (pe_not (pe_callB call_isi (by rfl) T.z_isinstance (by decide +kernel) (pa_cons (pv 0) (pa_cons (pe_bltn (v := .ty "bool") (by rfl) T.z_bool (by decide +kernel) rfl) pa_nil)))))))), ?_⟩
    refine N.go (σ := [some (.int i)]) ?_
    walk_at "w"
    walk_at "fin"

end

section
variable {P : Program} {w : World} {K : PySem.W.Frag} {mg : Str → Option Value} {base : Heap}
def sp__law_cell_at (K : PySem.W.Frag) : Sp := fun vs H Q _ => ∃ (a : Addr) (ns : List Int) (i : Int), vs = [.ref a, .int i] ∧ SqL K H a (zV ns) ∧ 0 ≤ i ∧ NR Q (.int (gat ns i)) H []
theorem WC__law_cell_at {K : PySem.W.Frag} {H0 : Hp} {fs : Fs} {Φ : CV} {a : Addr} {ns : List Int} {i : Int} (h : Rl K H0 fs a (zV ns)) (hi : 0 ≤ i) (q : Φ (.int (gat ns i)) fs) : WC (sp__law_cell_at K) [.ref a, .int i] H0 fs Φ :=
  fun H k Q E c => ⟨a, ns, i, rfl, h H k, hi, fun H' k' => c _ _ _ (k.app k') q⟩
theorem ok__law_cell_at (T : Txt K mg) : FnOk P w K mg base CX0 1 T.a__law_cell_at T.d__law_cell_at ["_law_script", "_law_k"] (sp__law_cell_at K) := by
  refine T.F__law_cell_at.ok sc__law_cell_at (fun vs H Q E h => ?_) (fun cdv A outer s H vs Q E hr h => ?_)
  · obtain ⟨a, ns, i, rfl, _⟩ := h; rfl
  · obtain ⟨a, ns, i, rfl, hS, h0, q⟩ := h
    refine ⟨_, (pss_cons (ps_if (pt_cmpR op_lt (pv 1) (pe_callB cLen (by rfl) T.z_len PySem.boot_len (pa_cons (pv 0) pa_nil)) (nomark _)) (pss_one (ps_ret (pe_ix ix_list (pv 0) (pv 1) (fun _ _ => rfl)))) pss_nil)
      (pss_one (ps_ret pe_int))), ?_⟩
    refine N.go (σ := [some (.ref a), some (.int i)]) ?_
    walk_at "w"
    walk_at "if"
    · walk_at "w"
      walk_at "fin"
    · walk_at "w"
      have e : gat ns i = 0 := by
        unfold gat
        rw [List.getD_eq_getElem?_getD, List.getElem?_eq_none (by omega)]; rfl
      rw [e] at q
      walk_at "fin"

end

section
variable {P : Program} {w : World} {K : PySem.W.Frag} {mg : Str → Option Value} {base : Heap}
def sp__law_trim : Sp := fun vs H Q _ => ∃ (a : Addr) (xs : List Int), vs = [.ref a] ∧ H a = some (.lst (zV xs)) ∧ xs.length ≤ 100000 ∧ ∀ p, NR Q (.ref p) H [(p, .lst (zV (trim xs)))]
theorem WC__law_trim {H0 : Hp} {fs : Fs} {Φ : CV} {a : Addr} {xs : List Int} (h : Rx H0 fs a (.lst (zV xs))) (hl : xs.length ≤ 100000) (q : ∀ p, Φ (.ref p) ((p, .lst (zV (trim xs))) :: fs)) : WC sp__law_trim [.ref a] H0 fs Φ :=
  fun H k Q E c => ⟨a, xs, rfl, h H k, hl, fun p H' k' => c _ _ _ (k.app k') (q p)⟩
theorem ok__law_trim (T : Txt K mg) : FnOk P w K mg base CX0 1 T.a__law_trim T.d__law_trim ["_law_row"] sp__law_trim := by
  refine T.F__law_trim.ok sc__law_trim (fun vs H Q E h => ?_) (fun cdv A outer s H vs Q E hr h => ?_)
  · obtain ⟨a, xs, rfl, _⟩ := h; rfl
  · obtain ⟨a, xs, rfl, hA, hl, q⟩ := h
    refine ⟨_, (pss_cons (ps_set (i := 1) sc__law_trim.nd rfl (Or.inl rfl) (pe_callB cLen (by rfl) T.z_len PySem.boot_len (pa_cons (pv 0) pa_nil)))
      (pss_cons (ps_while PassesOwn.never (PW.pt (pw_and (pt_cmpR op_gt (pv 1) pe_int (nomark _)) (pw_and1 (pt_cmpR op_eq (pe_ix ix_list (pv 0) (pe_op op_sub (pv 1) pe_int) (fun _ _ => rfl)) pe_int (nomark _))))) (pss_one (ps_set (i := 1) sc__law_trim.nd rfl (Or.inl rfl) (pe_op op_sub (pv 1) pe_int))))
      (pss_one (ps_ret (pe_slice sl_list (pv 0) po_none (po_some (pv 1))))))), ?_⟩
    refine N.go (σ := [some (.ref a), none]) ?_
    walk_at "w"
    refine S.while_ (fun m σ f => σ = [some (.ref a), some (.int (m : Int))] ∧ f = [] ∧ m ≤ xs.length ∧ trim xs = trim (xs.take m)) xs.length ⟨rfl, rfl, Nat.le_refl _, by rw [List.take_length]⟩ ?_
    rintro m σ f ⟨rfl, rfl, hm, ht⟩
    walk_at "w"
    walk_at "if"
    · walk_at "w"
      walk_at "if"
      · -- one nought less
        walk_at "w"
        rename_i h1 h2
        have em : ((m : Int) - 1) = ((m - 1 : Nat) : Int) := by omega
        rw [em]
        refine Wl.nx (m' := m - 1) (by omega) ⟨rfl, rfl, by omega, ?_⟩
        rw [ht]
        have e2 : m = (m - 1) + 1 := by omega
        rw [em, gat_nat] at h2
        rw [e2, take_succ_getD (by omega : m - 1 < xs.length), h2, trim_zero]
        rfl
      · walk_at "w"
        rename_i h1 h2
        intro l
        have em : ((m : Int) - 1) = ((m - 1 : Nat) : Int) := by omega
        have e2 : m = (m - 1) + 1 := by omega
        rw [em, gat_nat] at h2
        have e3 : trim xs = xs.take m := by
          rw [ht, e2, take_succ_getD (by omega : m - 1 < xs.length), trim_last _ h2]
        rw [e3] at q
        have e4 : ((m : Int)).toNat = m := by simp
        rw [e4]
        exact NR.sub (q l) (by walk_at "sub")
    · walk_at "w"
      rename_i h1
      intro l
      have e0 : m = 0 := by omega
      subst e0
      have e3 : trim xs = [] := by rw [ht]; rfl
      rw [e3] at q
      exact NR.sub (q l) (by walk_at "sub")

end

section
variable {P : Program} {w : World} {K : PySem.W.Frag} {mg : Str → Option Value} {base : Heap}
/-- the same numbers -/
def sp__law_same : Sp := fun vs H Q _ => ∃ (a b : Addr) (xs : List Int), vs = [.ref a, .ref b] ∧ H a = some (.lst (zV xs)) ∧ H b = some (.lst (zV xs)) ∧ xs.length ≤ 100000 ∧ NR Q (.bl true) H []
theorem WC__law_same {H0 : Hp} {fs : Fs} {Φ : CV} {a b : Addr} {xs : List Int} (h : Rx H0 fs a (.lst (zV xs))) (h2 : Rx H0 fs b (.lst (zV xs))) (hl : xs.length ≤ 100000) (q : Φ (.bl true) fs) : WC sp__law_same [.ref a, .ref b] H0 fs Φ :=
  fun H k Q E c => ⟨a, b, xs, rfl, h H k, h2 H k, hl, fun H' k' => c _ _ _ (k.app k') q⟩
theorem ok__law_same (T : Txt K mg) : FnOk P w K mg base CX0 2 T.a__law_same T.d__law_same ["_law_found", "_law_due"] sp__law_same := by
  refine T.F__law_same.ok sc__law_same (fun vs H Q E h => ?_) (fun cdv A outer s H vs Q E hr h => ?_)
  · obtain ⟨a, b, xs, rfl, _⟩ := h; rfl
  · obtain ⟨a, b, xs, rfl, hA, hB, hl, q⟩ := h
    refine ⟨_, (pss_cons (ps_if (PW.pt (pw_or (pt_not (pt_val (pe_callB call_isi (by rfl) T.z_isinstance (by decide +kernel) (pa_cons (pv 0) (pa_cons (pe_bltn (v := .ty "list") (by rfl) T.z_list (by decide +kernel) rfl) pa_nil))))) (pw_or1 (pt_cmpR op_ne (pe_callB cLen (by rfl) T.z_len PySem.boot_len (pa_cons (pv 0) pa_nil)) (pe_callB cLen (by rfl) T.z_len PySem.boot_len (pa_cons (pv 1) pa_nil)) (nomark _))))) (pss_one (ps_ret pe_bl)) pss_nil)
      (pss_cons (ps_for PassesOwn.never rfl (pi_range1 rfl T.z_range (pa_cons (pe_callB cLen (by rfl) T.z_len PySem.boot_len (pa_cons (pv 1) pa_nil)) pa_nil)) (pg_name (i := 2) sc__law_same.nd rfl (Or.inl rfl)) (pss_one (ps_if (PW.pt (pw_or (pt_not (pt_val (pe_call (ok__law_whole T) (hr.mono (by decide)) (by rfl) T.m__law_whole T.F__law_whole.kp T.b__law_whole .nil pass0 (pa_cons (pe_ix ix_list (pv 0) (pv 2) (fun _ _ => rfl)) pa_nil)))) (pw_or1 (pt_cmpR op_ne (pe_ix ix_list (pv 0) (pv 2) (fun _ _ => rfl)) (pe_ix ix_list (pv 1) (pv 2) (fun _ _ => rfl)) (nomark _))))) (pss_one (ps_ret pe_bl)) pss_nil)))
      (pss_one (ps_ret pe_bl)))), ?_⟩
    refine N.go (σ := [some (.ref a), some (.ref b), none]) ?_
    walk_at "w"
    walk_at "if"
    walk_at "w"
    refine S.forR (n := (xs.length : Int)) (fun i σ f => (∃ y, σ = [some (.ref a), some (.ref b), y]) ∧ f = []) ?_ ?_ ?_
    · walk_at "w"
      exact ⟨rfl, by omega, by omega, ⟨_, rfl⟩, rfl⟩
    · rintro i σ f hi ⟨⟨y, rfl⟩, rfl⟩
      walk_at "d"
      walk_at "w"
      refine WC__law_whole ?_
      walk_at "w"
      walk_at "if"
      walk_at "w"
      walk_at "lp"
      exact ⟨⟨_, rfl⟩, rfl⟩
    · rintro σ f ⟨⟨y, rfl⟩, rfl⟩
      walk_at "w"
      walk_at "fin"

end

section
variable {P : Program} {w : World} {K : PySem.W.Frag} {mg : Str → Option Value} {base : Heap}
/-- a number drawn from a cell -/
def num__law_number (c : Int) : Int := if c % 7 = 0 then 0 else if c % 7 = 1 then (1 - c / 7 % 2 * 2) * (c / 14 % 10 ^ 40) else c / 7 % 19 - 9
theorem num__law_number_bd (c : Int) : Bd 140 (num__law_number c) := by
  unfold num__law_number Bd
  have h1 : 0 ≤ c / 14 % 10 ^ 40 := Int.emod_nonneg _ (by decide)
  have h2 : c / 14 % 10 ^ 40 < 10 ^ 40 := Int.emod_lt_of_pos _ (by decide)
  have h3 : c / 7 % 2 = 0 ∨ c / 7 % 2 = 1 := by omega
  have e : (10 : Int) ^ 40 = 10000000000000000000000000000000000000000 := by decide
  have e2 : (2 : Nat) ^ 140 = 1393796574908163946345982392040522594123776 := by decide
  rw [e2]
  rw [e] at h1 h2 ⊢
  split
  · decide
  · split
    · rcases h3 with h3 | h3 <;> rw [h3] <;> omega
    · omega
def sp__law_number : Sp := fun vs H Q _ => ∃ (c : Int), vs = [.int c] ∧ NR Q (.int (num__law_number c)) H []
theorem WC__law_number {H0 : Hp} {fs : Fs} {Φ : CV} {c : Int} (q : Φ (.int (num__law_number c)) fs) : WC sp__law_number [.int c] H0 fs Φ := fun H k Q E cc => ⟨c, rfl, fun H' k' => cc _ _ _ (k.app k') q⟩
theorem ok__law_number (T : Txt K mg) : FnOk P w K mg base CX0 1 T.a__law_number T.d__law_number ["_law_cell"] sp__law_number := by
  refine T.F__law_number.ok sc__law_number (fun vs H Q E h => ?_) (fun cdv A outer s H vs Q E hr h => ?_)
  · obtain ⟨c, rfl, _⟩ := h; rfl
  · obtain ⟨c, rfl, q⟩ := h
    refine ⟨_, (pss_cons (ps_if (pt_cmpR op_eq (pe_op op_mod (pv 0) pe_int) pe_int (nomark _)) (pss_one (ps_ret pe_int)) pss_nil)
      (pss_cons (ps_if (pt_cmpR op_eq (pe_op op_mod (pv 0) pe_int) pe_int (nomark _)) (pss_one (ps_ret (pe_op op_mulG (pe_op op_sub pe_int (pe_op op_mulG (pe_op op_mod (pe_op op_fdiv (pv 0) pe_int) pe_int) pe_int)) (pe_op op_mod (pe_op op_fdiv (pv 0) pe_int) (pe_op op_pow pe_int pe_int))))) pss_nil)
      (pss_one (ps_ret (pe_op op_sub (pe_op op_mod (pe_op op_fdiv (pv 0) pe_int) pe_int) pe_int))))), ?_⟩
    refine N.go (σ := [some (.int c)]) ?_
    unfold num__law_number at q
    walk_at "w"
    walk_at "if"
    · rename_i h1
      rw [if_pos h1] at q
      walk_at "w"
      walk_at "fin"
    · rename_i h1
      rw [if_neg h1] at q
      walk_at "w"
      walk_at "if"
      · rename_i h2
        rw [if_pos h2] at q
        walk_at "w"
        walk_at "fin"
      · rename_i h2
        rw [if_neg h2] at q
        walk_at "w"
        walk_at "fin"

end

section
variable {P : Program} {w : World} {K : PySem.W.Frag} {mg : Str → Option Value} {base : Heap}
/-- a drawn row -/
def drawn (ns : List Int) (place size many : Int) : List Int :=
  trim (if 0 < many then (List.range many.toNat).map (fun (k : Nat) => num__law_number (gat ns place + 97 * (k : Int) * (k : Int) + 13 * (k : Int)))
    else (List.range size.toNat).map (fun (k : Nat) => num__law_number (gat ns (place + (k : Int)))))
theorem drawn_len (ns : List Int) {place size many : Int} (h1 : size ≤ 100) (h2 : many ≤ 101) : (drawn ns place size many).length ≤ 101 := by
  unfold drawn
  refine Nat.le_trans (trim_length_le _) ?_
  split <;> (simp; omega)
theorem drawn_len2 (ns : List Int) {place size many : Int} {n : Nat} (h1 : size ≤ n) (h2 : many ≤ n) : (drawn ns place size many).length ≤ n := by
  unfold drawn
  refine Nat.le_trans (trim_length_le _) ?_
  split <;> (simp; omega)
theorem drawn_tr (ns : List Int) (place size many : Int) : Tr (drawn ns place size many) := tr_trim _
theorem drawn_bd (ns : List Int) (place size many : Int) : BdL 140 (drawn ns place size many) := by
  refine BdL.trim fun x hx => ?_
  split at hx
  · obtain ⟨k, _, rfl⟩ := List.mem_map.mp hx
    exact num__law_number_bd _
  · obtain ⟨k, _, rfl⟩ := List.mem_map.mp hx
    exact num__law_number_bd _
def sp__law_drawn (K : PySem.W.Frag) : Sp := fun vs H Q _ => ∃ (a : Addr) (ns : List Int) (place size many : Int), vs = [.ref a, .int place, .int size, .int many] ∧ SqL K H a (zV ns) ∧ 0 ≤ place ∧ (0 ≤ size ∧ size ≤ 1000) ∧ (0 ≤ many ∧ many ≤ 1000) ∧
  ∀ p, NR Q (.ref p) H [(p, .lst (zV (drawn ns place size many)))]
theorem WC__law_drawn {K : PySem.W.Frag} {H0 : Hp} {fs : Fs} {Φ : CV} {a : Addr} {ns : List Int} {place size many : Int} (h : Rl K H0 fs a (zV ns)) (hi : 0 ≤ place) (hs : 0 ≤ size ∧ size ≤ 1000) (hm : 0 ≤ many ∧ many ≤ 1000)
    (q : ∀ p, Φ (.ref p) ((p, .lst (zV (drawn ns place size many))) :: fs)) : WC (sp__law_drawn K) [.ref a, .int place, .int size, .int many] H0 fs Φ :=
  fun H k Q E c => ⟨a, ns, place, size, many, rfl, h H k, hi, hs, hm, fun p H' k' => c _ _ _ (k.app k') (q p)⟩
theorem ok__law_drawn (T : Txt K mg) : FnOk P w K mg base CX0 2 T.a__law_drawn T.d__law_drawn ["_law_script", "_law_place", "_law_size", "_law_many"] (sp__law_drawn K) := by
  refine T.F__law_drawn.ok sc__law_drawn (fun vs H Q E h => ?_) (fun cdv A outer s H vs Q E hr h => ?_)
  · obtain ⟨a, ns, place, size, many, rfl, _⟩ := h; rfl
  · obtain ⟨a, ns, place, size, many, rfl, hA, h0, hs, hm, q⟩ := h
    refine ⟨_, (pss_cons (ps_setLc (i := 4) (own := [("_law_k", 5)]) (g := gName 5) (tt := tYes) rfl sc__law_drawn.nd rfl rfl (sw_true rfl rfl rfl (by decide +kernel)) (pi_range1 rfl T.z_range (pa_cons (pv 2) pa_nil)) (blkOk_by (own := [("_law_k", 5)]) (N := ["_law_script", "_law_place", "_law_size", "_law_many", "_law_row", "_law_k"]) (sc := defScope s__law_drawn) (by decide +kernel)) (fun _ _ _ _ _ => pg_name (i := 5) sc__law_drawn.nd rfl (Or.inl rfl)) (fun _ _ _ _ _ => pts_nil) (fun _ _ _ _ _ => (pe_call (ok__law_number T) (hr.mono (by decide)) (by rfl) T.m__law_number T.F__law_number.kp T.b__law_number .nil pass0 (pa_cons (pe_call (ok__law_cell_at T) (hr.mono (by decide)) (by rfl) T.m__law_cell_at T.F__law_cell_at.kp T.b__law_cell_at .nil pass0 (pa_cons (pv 0) (pa_cons (pe_op op_add (pv 1) (pv 5)) pa_nil))) pa_nil))))
      (pss_cons (ps_if (pt_cmpR op_gt (pv 3) pe_int (nomark _)) (pss_one (ps_setLc (i := 4) (own := [("_law_k", 5)]) (g := gName 5) (tt := tYes) rfl sc__law_drawn.nd rfl rfl (sw_true rfl rfl rfl (by decide +kernel)) (pi_range1 rfl T.z_range (pa_cons (pv 3) pa_nil)) (blkOk_by (own := [("_law_k", 5)]) (N := ["_law_script", "_law_place", "_law_size", "_law_many", "_law_row", "_law_k"]) (sc := defScope s__law_drawn) (by decide +kernel)) (fun _ _ _ _ _ => pg_name (i := 5) sc__law_drawn.nd rfl (Or.inl rfl)) (fun _ _ _ _ _ => pts_nil) (fun _ _ _ _ _ => (pe_call (ok__law_number T) (hr.mono (by decide)) (by rfl) T.m__law_number T.F__law_number.kp T.b__law_number .nil pass0 (pa_cons (pe_op op_add (pe_op op_add (pe_call (ok__law_cell_at T) (hr.mono (by decide)) (by rfl) T.m__law_cell_at T.F__law_cell_at.kp T.b__law_cell_at .nil pass0 (pa_cons (pv 0) (pa_cons (pv 1) pa_nil))) (pe_op op_mulG (pe_op op_mulG pe_int (pv 5)) (pv 5))) (pe_op op_mulG pe_int (pv 5))) pa_nil))))) pss_nil)
      (pss_one (ps_ret (pe_call (ok__law_trim T) (hr.mono (by decide)) (by rfl) T.m__law_trim T.F__law_trim.kp T.b__law_trim .nil pass0 (pa_cons (pv 4) pa_nil)))))), ?_⟩
    refine N.go (σ := [some (.ref a), some (.int place), some (.int size), some (.int many), none, none]) ?_
    walk_at "w"
    refine W.lcRz (n := size) (fun (k : Nat) => num__law_number (gat ns (place + (k : Int)))) ?_
    walk_at "w"
    refine ⟨rfl, by omega, by omega, fun _ => rfl, fun i D acc hi => ?_, fun D => ?_⟩
    · walk_at "d"
      walk_at "w"
      refine WC__law_cell_at (ns := ns) (by walk_at "rl") (by omega) ?_
      walk_at "w"
      refine WC__law_number ?_
      exact ⟨rfl, by walk_at "sub"⟩
    · walk_at "d"
      walk_at "w"
      walk_at "if"
      · walk_at "w"
        rename_i hpos
        refine W.lcRz (n := many) (fun (k : Nat) => num__law_number (gat ns place + 97 * (k : Int) * (k : Int) + 13 * (k : Int))) ?_
        walk_at "w"
        refine ⟨rfl, by omega, by omega, fun _ => rfl, fun i D acc hi => ?_, fun D => ?_⟩
        · walk_at "d"
          walk_at "w"
          refine WC__law_cell_at (ns := ns) (by walk_at "rl") (by omega) ?_
          walk_at "w"
          refine WC__law_number ?_
          exact ⟨rfl, by walk_at "sub"⟩
        · walk_at "d"
          walk_at "w"
          refine WC__law_trim (by walk_at "rx") (by simp; omega) fun p => ?_
          unfold drawn at q
          rw [if_pos hpos] at q
          exact NR.sub (q p) (by walk_at "sub")
      · walk_at "w"
        rename_i hpos
        refine WC__law_trim (by walk_at "rx") (by simp; omega) fun p => ?_
        unfold drawn at q
        rw [if_neg hpos] at q
        exact NR.sub (q p) (by walk_at "sub")

end

section
variable {P : Program} {w : World} {K : PySem.W.Frag} {mg : Str → Option Value} {base : Heap}
def sp__law_times : Sp := fun vs H Q _ => ∃ (a b : Addr) (xs ys : List Int) (m n : Nat), vs = [.ref a, .ref b] ∧ H a = some (.lst (zV xs)) ∧ H b = some (.lst (zV ys)) ∧ (xs.length ≤ 40000 ∧ ys.length ≤ 40000) ∧ BdL m xs ∧ BdL n ys ∧ m + n ≤ 134217728 ∧ ∀ p, NR Q (.ref p) H [(p, .lst (zV (tm xs ys)))]
theorem WC__law_times {H0 : Hp} {fs : Fs} {Φ : CV} {a b : Addr} {xs ys : List Int} (m n : Nat) (h : Rx H0 fs a (.lst (zV xs))) (h2 : Rx H0 fs b (.lst (zV ys))) (hl : xs.length ≤ 40000 ∧ ys.length ≤ 40000) (hm : BdL m xs) (hn : BdL n ys) (hmn : m + n ≤ 134217728)
    (q : ∀ p, Φ (.ref p) ((p, .lst (zV (tm xs ys))) :: fs)) : WC sp__law_times [.ref a, .ref b] H0 fs Φ :=
  fun H k Q E c => ⟨a, b, xs, ys, m, n, rfl, h H k, h2 H k, hl, hm, hn, hmn, fun p H' k' => c _ _ _ (k.app k') (q p)⟩
theorem ok__law_times (T : Txt K mg) : FnOk P w K mg base CX0 2 T.a__law_times T.d__law_times ["_law_ones", "_law_others"] sp__law_times := by
  refine T.F__law_times.ok sc__law_times (fun vs H Q E h => ?_) (fun cdv A outer s H vs Q E hr h => ?_)
  · obtain ⟨a, b, xs, ys, m, n, rfl, _⟩ := h; rfl
  · obtain ⟨a, b, xs, ys, m, n, rfl, hA, hB, hl, hm, hn, hmn, q⟩ := h
    refine ⟨_, (pss_cons (ps_set (i := 2) sc__law_times.nd rfl (Or.inl rfl) (pe_op op_rep (pe_lst (pa_cons pe_int pa_nil)) (pe_op op_add (pe_callB cLen (by rfl) T.z_len PySem.boot_len (pa_cons (pv 0) pa_nil)) (pe_callB cLen (by rfl) T.z_len PySem.boot_len (pa_cons (pv 1) pa_nil)))))
      (pss_cons (ps_for PassesOwn.never rfl (pi_range1 rfl T.z_range (pa_cons (pe_callB cLen (by rfl) T.z_len PySem.boot_len (pa_cons (pv 0) pa_nil)) pa_nil)) (pg_name (i := 3) sc__law_times.nd rfl (Or.inl rfl)) (pss_one (ps_for PassesOwn.never rfl (pi_range1 rfl T.z_range (pa_cons (pe_callB cLen (by rfl) T.z_len PySem.boot_len (pa_cons (pv 1) pa_nil)) pa_nil)) (pg_name (i := 4) sc__law_times.nd rfl (Or.inl rfl)) (pss_one (ps_asg (pe_op op_add (pe_ix ix_list (pv 2) (pe_op op_add (pv 3) (pv 4)) (fun _ _ => rfl)) (pe_op op_mulG (pe_ix ix_list (pv 0) (pv 3) (fun _ _ => rfl)) (pe_ix ix_list (pv 1) (pv 4) (fun _ _ => rfl)))) (pg_sub (pv 2) (pe_op op_add (pv 3) (pv 4)) set_list))))))
      (pss_one (ps_ret (pe_call (ok__law_trim T) (hr.mono (by decide)) (by rfl) T.m__law_trim T.F__law_trim.kp T.b__law_trim .nil pass0 (pa_cons (pv 2) pa_nil)))))), ?_⟩
    refine N.go (σ := [some (.ref a), some (.ref b), none, none, none]) ?_
    walk_at "w"
    intro z
    walk_at "w"
    refine RW.rep (x := 0) (by walk_at "rx") (by omega) fun p => ?_
    have e0 : ((xs.length : Int) + (ys.length : Int)).toNat = xs.length + ys.length := by omega
    rw [e0]
    walk_at "d"
    walk_at "w"
    refine S.forR (n := (xs.length : Int)) (fun i σ f => ∃ y1 y2, σ = [some (.ref a), some (.ref b), some (.ref p), y1, y2] ∧ f = [(p, .lst (zV (lp (tmRow xs ys) i (List.replicate (xs.length + ys.length) 0)))), (z, .lst (zV [0]))]) ?_ ?_ ?_
    · walk_at "w"
      refine ⟨rfl, by omega, by omega, none, none, rfl, rfl⟩
    · rintro i σ f hi ⟨y1, y2, rfl, rfl⟩
      walk_at "d"
      have hacc : (lp (tmRow xs ys) i (List.replicate (xs.length + ys.length) 0)).length = xs.length + ys.length := by
        rw [lp_len (fun i a => tmRow_len _ _ _ _), List.length_replicate]
      have hnext : lp (tmRow xs ys) (i + 1) (List.replicate (xs.length + ys.length) 0) = tmRow xs ys i (lp (tmRow xs ys) i (List.replicate (xs.length + ys.length) 0)) := rfl
      rw [show (fun (i : Nat) (σ : St) (f : Fs) => ∃ y1 y2, σ = [some (.ref a), some (.ref b), some (.ref p), y1, y2] ∧ f = [(p, .lst (zV (lp (tmRow xs ys) i (List.replicate (xs.length + ys.length) 0)))), (z, .lst (zV [0]))]) = (fun (i : Nat) (σ : St) (f : Fs) => ∃ y1 y2, σ = [some (.ref a), some (.ref b), some (.ref p), y1, y2] ∧ f = [(p, .lst (zV (lp (tmRow xs ys) i (List.replicate (xs.length + ys.length) 0)))), (z, .lst (zV [0]))]) from rfl]
      generalize hA0 : lp (tmRow xs ys) i (List.replicate (xs.length + ys.length) 0) = acc at hacc hnext
      refine S.forR (n := (ys.length : Int)) (fun k σ f => ∃ y2, σ = [some (.ref a), some (.ref b), some (.ref p), some (.int (i : Int)), y2] ∧ f = [(p, .lst (zV (lp (tmIn (xs.getD i 0) ys i) k acc))), (z, .lst (zV [0]))]) ?_ ?_ ?_
      · walk_at "w"
        refine ⟨rfl, by omega, by omega, y2, rfl, rfl⟩
      · rintro k σ f hk ⟨y2, rfl, rfl⟩
        walk_at "d"
        have hlen : (lp (tmIn (xs.getD i 0) ys i) k acc).length = xs.length + ys.length := by
          rw [lp_len (fun i a => tmIn_len _ _ _ _ _)]; exact hacc
        have hok : IntMulOk (gat xs (i : Int)) (gat ys (k : Int)) := mulB (hm.gat _) (hn.gat _) hmn
        refine S.setL ?_
        walk_at "w"
        walk_at "set1"
        · rw [zV_length, hlen]; omega
        have ei : ((i : Int) + (k : Int)) = ((i + k : Nat) : Int) := by omega
        have e1 : ((i : Int) + (k : Int)).toNat = i + k := by omega
        rw [e1, zV_set, ei, gat_nat, gat_nat, gat_nat]
        walk_at "d"
        walk_at "lp"
        exact ⟨_, rfl, rfl⟩
      · rintro σ f ⟨y2, rfl, rfl⟩
        have ek : ((ys.length : Int)).toNat = ys.length := by simp
        rw [ek]
        walk_at "lp"
        refine ⟨_, y2, rfl, ?_⟩
        rw [hnext]
        rfl
    · rintro σ f ⟨y1, y2, rfl, rfl⟩
      have ek : ((xs.length : Int)).toNat = xs.length := by simp
      rw [ek]
      walk_at "w"
      have hlen := tmRaw_len xs ys
      refine WC__law_trim (xs := tmRaw xs ys) (by walk_at "rx") (by omega) fun r => ?_
      exact NR.sub (q r) (by walk_at "sub")

end

section
variable {P : Program} {w : World} {K : PySem.W.Frag} {mg : Str → Option Value} {base : Heap}
def sp__law_quotient : Sp := fun vs H Q _ => ∃ (a b : Addr) (xs ys : List Int) (A B : Nat), vs = [.ref a, .ref b] ∧ H a = some (.lst (zV xs)) ∧ H b = some (.lst (zV ys)) ∧ (xs.length ≤ 40000 ∧ ys.length ≤ 40000) ∧ Tr ys ∧ ys ≠ [] ∧ BdL A xs ∧ BdL B ys ∧ (B ≤ 9000) ∧ A + (xs.length + 2 - ys.length) * (B + 1) + B + 1 ≤ 134217728 ∧
  (∀ q, Whole xs ys q → ∀ p, NR Q (.ref p) H [(p, .lst (zV q))]) ∧ ((∀ q, ¬ Whole xs ys q) → NR Q .non H [])
theorem WC__law_quotient {H0 : Hp} {fs : Fs} {Φ : CV} {a b : Addr} {xs ys : List Int} (A B : Nat) (h : Rx H0 fs a (.lst (zV xs))) (h2 : Rx H0 fs b (.lst (zV ys))) (hl : xs.length ≤ 40000 ∧ ys.length ≤ 40000) (ht : Tr ys) (hne : ys ≠ []) (hA : BdL A xs) (hB : BdL B ys) (hB9 : B ≤ 9000) (hAB : A + (xs.length + 2 - ys.length) * (B + 1) + B + 1 ≤ 134217728)
    (c : ∀ q, Whole xs ys q → ∀ p, Φ (.ref p) ((p, .lst (zV q)) :: fs)) (c2 : (∀ q, ¬ Whole xs ys q) → Φ .non fs) : WC sp__law_quotient [.ref a, .ref b] H0 fs Φ :=
  fun H k Q E cc => ⟨a, b, xs, ys, A, B, rfl, h H k, h2 H k, hl, ht, hne, hA, hB, hB9, hAB, fun q hw p H' k' => cc _ _ _ (k.app k') (c q hw p), fun hw H' k' => cc _ _ _ (k.app k') (c2 hw)⟩
theorem ok__law_quotient (T : Txt K mg) : FnOk P w K mg base CX0 2 T.a__law_quotient T.d__law_quotient ["_law_row", "_law_by"] sp__law_quotient := by
  refine T.F__law_quotient.ok sc__law_quotient (fun vs H Q E h => ?_) (fun cdv A outer s H vs Q E hr h => ?_)
  · obtain ⟨a, b, xs, ys, A, B, rfl, _⟩ := h; rfl
  · obtain ⟨a, b, xs, ys, A, B, rfl, hXa, hXb, hl, ht, hne, hA, hB, hB9, hAB, c, c2⟩ := h
    refine ⟨_, (pss_cons (ps_set (i := 2) sc__law_quotient.nd rfl (Or.inl rfl) (pe_callTy cListOf (by rfl) T.z_list (by decide +kernel) (pa_cons (pv 0) pa_nil)))
      (pss_cons (ps_set (i := 3) sc__law_quotient.nd rfl (Or.inl rfl) (pe_op op_rep (pe_lst (pa_cons pe_int pa_nil)) (pe_callB (cMax2 rfl) (by rfl) T.z_max (by decide +kernel) (pa_cons pe_int (pa_cons (pe_op op_add (pe_op op_sub (pe_callB cLen (by rfl) T.z_len PySem.boot_len (pa_cons (pv 0) pa_nil)) (pe_callB cLen (by rfl) T.z_len PySem.boot_len (pa_cons (pv 1) pa_nil))) pe_int) pa_nil)))))
      (pss_cons (ps_for PassesOwn.never rfl (pi_range1 rfl T.z_range (pa_cons (pe_callB cLen (by rfl) T.z_len PySem.boot_len (pa_cons (pv 3) pa_nil)) pa_nil)) (pg_name (i := 4) sc__law_quotient.nd rfl (Or.inl rfl)) (pss_cons (ps_set (i := 5) sc__law_quotient.nd rfl (Or.inl rfl) (pe_op op_sub (pe_op op_sub (pe_callB cLen (by rfl) T.z_len PySem.boot_len (pa_cons (pv 3) pa_nil)) pe_int) (pv 4)))
      (pss_cons (ps_set (i := 6) sc__law_quotient.nd rfl (Or.inl rfl) (pe_ix ix_list (pv 2) (pe_op op_sub (pe_op op_add (pv 5) (pe_callB cLen (by rfl) T.z_len PySem.boot_len (pa_cons (pv 1) pa_nil))) pe_int) (fun _ _ => rfl)))
      (pss_cons (ps_if (pt_cmpR op_ne (pe_op op_modN (pv 6) (pe_ix ix_list (pv 1) (pe_un un_neg pe_int) (fun _ _ => rfl))) pe_int (nomark _)) (pss_one (ps_ret pe_non)) pss_nil)
      (pss_cons (ps_asg (pe_op op_fdivG (pv 6) (pe_ix ix_list (pv 1) (pe_un un_neg pe_int) (fun _ _ => rfl))) (pg_sub (pv 3) (pv 5) set_list))
      (pss_one (ps_for PassesOwn.never rfl (pi_range1 rfl T.z_range (pa_cons (pe_callB cLen (by rfl) T.z_len PySem.boot_len (pa_cons (pv 1) pa_nil)) pa_nil)) (pg_name (i := 7) sc__law_quotient.nd rfl (Or.inl rfl)) (pss_one (ps_asg (pe_op op_sub (pe_ix ix_list (pv 2) (pe_op op_add (pv 5) (pv 7)) (fun _ _ => rfl)) (pe_op op_mulG (pe_ix ix_list (pv 3) (pv 5) (fun _ _ => rfl)) (pe_ix ix_list (pv 1) (pv 7) (fun _ _ => rfl)))) (pg_sub (pv 2) (pe_op op_add (pv 5) (pv 7)) set_list))))))))))
      (pss_cons (ps_if (pt_cmpR (op_neD hr.units) (pe_call (ok__law_trim T) (hr.mono (by decide)) (by rfl) T.m__law_trim T.F__law_trim.kp T.b__law_trim .nil pass0 (pa_cons (pv 2) pa_nil)) (pe_lst pa_nil) (nomark _)) (pss_one (ps_ret pe_non)) pss_nil)
      (pss_one (ps_ret (pe_call (ok__law_trim T) (hr.mono (by decide)) (by rfl) T.m__law_trim T.F__law_trim.kp T.b__law_trim .nil pass0 (pa_cons (pv 3) pa_nil)))))))), ?_⟩
    refine N.go (σ := [some (.ref a), some (.ref b), none, none, none, none, none, none]) ?_
    have hy : 0 < ys.length := List.length_pos_iff.mpr hne
    obtain ⟨n, hn⟩ : ∃ n, n = xs.length + 1 - ys.length := ⟨_, rfl⟩
    have hlcd : S ys (ys.length - 1) = ys.getLast hne := by
      rw [S_at, List.getD_eq_getElem?_getD, List.getElem?_eq_getElem (by omega), List.getLast_eq_getElem]; rfl
    have hlc0 : S ys (ys.length - 1) ≠ 0 := S_top ht hne
    have hlast : atI (zV ys) (-1) = some (.int (S ys (ys.length - 1))) := by rw [hlcd]; exact atI_lastI hne
    have hlcb : Bd B (S ys (ys.length - 1)) := hB.at _
    walk_at "w"
    intro pr
    walk_at "d"
    walk_at "w"
    intro l0
    walk_at "w"
    refine RW.rep (x := 0) (by walk_at "rx") (by omega) fun pf => ?_
    have en : (max 0 ((xs.length : Int) - (ys.length : Int) + 1)).toNat = n := by omega
    rw [en]
    walk_at "d"
    refine N.sub [(pf, .lst (zV (List.replicate n 0))), (pr, .lst (zV xs))] (by walk_at "sub") ?_
    walk_at "w"
    refine S.forR (n := (n : Int)) (fun t σ f => ∃ fl rl y5 y6 y7 y8, σ = [some (.ref a), some (.ref b), some (.ref pr), some (.ref pf), y5, y6, y7, y8] ∧ f = [(pf, .lst (zV fl)), (pr, .lst (zV rl))] ∧ t ≤ n ∧ QI xs ys A B n t fl rl) ?_ ?_ ?_
    · walk_at "w"
      rw [List.length_replicate]
      exact ⟨rfl, by omega, by omega, _, xs, none, none, none, none, rfl, rfl, Nat.zero_le _, QI.start hn hA⟩
    · rintro t σ f ht' ⟨fl, rl, y5, y6, y7, y8, rfl, rfl, _, hD⟩
      have htn : t < n := by omega
      have hfl := hD.fl
      have hrl := hD.rl
      have htB : t * (B + 1) ≤ n * (B + 1) := Nat.mul_le_mul_right _ (by omega)
      rw [show xs.length + 2 - ys.length = n + 1 by omega, Nat.succ_mul] at hAB
      walk_at "d"
      walk_at "w"
      have eP : (fl.length : Int) - 1 - (t : Int) = ((n - 1 - t : Nat) : Int) := by omega
      rw [eP]
      walk_at "d"
      walk_at "w"
      have eT : gat rl (((n - 1 - t : Nat) : Int) + (ys.length : Int) - 1) = S rl (n - 1 - t + ys.length - 1) := by
        rw [show ((n - 1 - t : Nat) : Int) + (ys.length : Int) - 1 = ((n - 1 - t + ys.length - 1 : Nat) : Int) by omega, gat_nat]; rfl
      rw [eT]
      walk_at "d"
      walk_at "w"
      refine RW.ixL (by walk_at "rl") hlast ?_
      walk_at "w"
      by_cases hdv : S ys (ys.length - 1) ∣ S rl (n - 1 - t + ys.length - 1)
      · have hm0 : (S rl (n - 1 - t + ys.length - 1)).fmod (S ys (ys.length - 1)) = 0 := Int.fmod_eq_zero_of_dvd hdv
        rw [decide_eq_true hm0]
        have hcd : CDivG (S rl (n - 1 - t + ys.length - 1)) (S ys (ys.length - 1)) := CDivG.bits hlc0 hlcb hB9
        have hv : (S rl (n - 1 - t + ys.length - 1)).fdiv (S ys (ys.length - 1)) * S ys (ys.length - 1) = S rl (n - 1 - t + ys.length - 1) := by
          rw [Int.mul_comm]; exact fdiv_of_dvd hlc0 hdv
        have htb : (S rl (n - 1 - t + ys.length - 1)).natAbs < 2 ^ (A + t * (B + 1)) := hD.rb.at _
        walk_at "w"
        refine S.setL ?_
        walk_at "w"
        refine RW.ixL (by walk_at "rl") hlast ?_
        walk_at "w"
        generalize (S rl (n - 1 - t + ys.length - 1)).fdiv (S ys (ys.length - 1)) = v at hv
        have hvb : Bd (A + t * (B + 1)) v := by
          refine Nat.lt_of_le_of_lt ?_ htb
          rw [← hv, Int.natAbs_mul]
          exact Nat.le_mul_of_pos_right _ (Int.natAbs_pos.mpr hlc0)
        have hD' := hD.step htn hn hy hB hlc0 hv
        walk_at "set1"
        · rw [zV_length]; omega
        have eP2 : (((n - 1 - t : Nat) : Int)).toNat = n - 1 - t := by omega
        rw [eP2, zV_set]
        walk_at "d"
        generalize hF : fl.set (n - 1 - t) v = fl' at hD'
        have hfl' : fl'.length = n := hD'.fl
        have hfv : gat fl' ((n - 1 - t : Nat) : Int) = v := by
          rw [gat_nat, ← hF, getD_set, if_pos rfl, if_pos (by omega)]
        refine S.forR (n := (ys.length : Int)) (fun k σ f => ∃ y, σ = [some (.ref a), some (.ref b), some (.ref pr), some (.ref pf), some (.int (t : Int)), some (.int ((n - 1 - t : Nat) : Int)), some (.int (S rl (n - 1 - t + ys.length - 1))), y] ∧ f = [(pf, .lst (zV fl')), (pr, .lst (zV (lp (sbIn v ys (n - 1 - t)) k rl)))]) ?_ ?_ ?_
        · walk_at "w"
          exact ⟨rfl, by omega, by omega, y8, rfl, rfl⟩
        · rintro k σ f hk ⟨y, rfl, rfl⟩
          walk_at "d"
          have hlen : (lp (sbIn v ys (n - 1 - t)) k rl).length = xs.length := by
            rw [sbIn_eq, lp_len (fun i a => tmIn_len _ _ _ _ _)]; exact hrl
          have hok : IntMulOk v (gat ys (k : Int)) := mulB hvb (hB.gat _) (by omega)
          refine S.setL ?_
          walk_at "w"
          rw [hfv]
          walk_at "w"
          walk_at "set1"
          · rw [zV_length, hlen]; omega
          have ei : (((n - 1 - t : Nat) : Int) + (k : Int)) = ((n - 1 - t + k : Nat) : Int) := by omega
          have e1 : (((n - 1 - t : Nat) : Int) + (k : Int)).toNat = n - 1 - t + k := by omega
          rw [e1, zV_set, ei, gat_nat, gat_nat]
          walk_at "d"
          walk_at "lp"
          exact ⟨_, rfl, rfl⟩
        · rintro σ f ⟨y, rfl, rfl⟩
          have ek : ((ys.length : Int)).toNat = ys.length := by simp
          rw [ek]
          walk_at "lp"
          exact ⟨fl', _, _, _, _, _, rfl, rfl, htn, hD'⟩
      · have hm0 : (S rl (n - 1 - t + ys.length - 1)).fmod (S ys (ys.length - 1)) ≠ 0 := fun z => hdv (Int.dvd_of_fmod_eq_zero z)
        rw [decide_eq_false hm0]
        walk_at "w"
        exact NR.sub (c2 (hD.no htn ht hne hdv)) (by walk_at "sub")
    · rintro σ f ⟨fl, rl, y5, y6, y7, y8, rfl, rfl, _, hD⟩
      have ek : ((n : Int)).toNat = n := by simp
      rw [ek] at hD
      have hfl := hD.fl
      have hrl := hD.rl
      walk_at "w"
      refine WC__law_trim (xs := rl) (by walk_at "rx") (by omega) fun p2 => ?_
      walk_at "w"
      intro z
      walk_at "w"
      by_cases hr0 : trim rl = []
      · rw [decide_eq_true hr0]
        walk_at "w"
        refine WC__law_trim (xs := fl) (by walk_at "rx") (by omega) fun p1 => ?_
        exact NR.sub (c _ (hD.whole hr0) p1) (by walk_at "sub")
      · rw [decide_eq_false hr0]
        walk_at "w"
        exact NR.sub (c2 (hD.nowhole ht hne hr0)) (by walk_at "sub")

end

section
variable {P : Program} {w : World} {K : PySem.W.Frag} {mg : Str → Option Value} {base : Heap}
def told08 (xs ys : List Int) (t : Str) (l : List Int) : Prop := (ys = [] ∧ t = "by nought" ∧ l = []) ∨ (ys ≠ [] ∧ t = "told" ∧ Whole xs ys l) ∨ (ys ≠ [] ∧ t = "not whole" ∧ l = [] ∧ ∀ q, ¬ Whole xs ys q)
def sp__law_told : Sp := fun vs H Q _ => ∃ (a b : Addr) (xs ys : List Int) (A B : Nat), vs = [.ref a, .ref b] ∧ H a = some (.lst (zV xs)) ∧ H b = some (.lst (zV ys)) ∧ (xs.length ≤ 40000 ∧ ys.length ≤ 40000) ∧ Tr ys ∧ BdL A xs ∧ BdL B ys ∧ (B ≤ 9000) ∧ A + (xs.length + 2 - ys.length) * (B + 1) + B + 1 ≤ 134217728 ∧
  ∀ t l, told08 xs ys t l → ∀ z p, NR Q (.ref p) H [(p, .tup [.str t, .ref z]), (z, .lst (zV l))]
theorem WC__law_told {H0 : Hp} {fs : Fs} {Φ : CV} {a b : Addr} {xs ys : List Int} (A B : Nat) (h : Rx H0 fs a (.lst (zV xs))) (h2 : Rx H0 fs b (.lst (zV ys))) (hl : xs.length ≤ 40000 ∧ ys.length ≤ 40000) (ht : Tr ys) (hA : BdL A xs) (hB : BdL B ys) (hB9 : B ≤ 9000) (hAB : A + (xs.length + 2 - ys.length) * (B + 1) + B + 1 ≤ 134217728)
    (c : ∀ t l, told08 xs ys t l → ∀ z p, Φ (.ref p) ((p, .tup [.str t, .ref z]) :: (z, .lst (zV l)) :: fs)) : WC sp__law_told [.ref a, .ref b] H0 fs Φ :=
  fun H k Q E cc => ⟨a, b, xs, ys, A, B, rfl, h H k, h2 H k, hl, ht, hA, hB, hB9, hAB, fun t l hw z p H' k' => cc _ _ _ (k.app k') (c t l hw z p)⟩
theorem ok__law_told (T : Txt K mg) : FnOk P w K mg base CX0 4 T.a__law_told T.d__law_told ["_law_row", "_law_by"] sp__law_told := by
  refine T.F__law_told.ok sc__law_told (fun vs H Q E h => ?_) (fun cdv A outer s H vs Q E hr h => ?_)
  · obtain ⟨a, b, xs, ys, A, B, rfl, _⟩ := h; rfl
  · obtain ⟨a, b, xs, ys, A, B, rfl, hXa, hXb, hl, ht, hA, hB, hB9, hAB, c⟩ := h
    refine ⟨_, (pss_one (ps_try_manyK (K := K) (Wout := (fun _ _ _ _ => False)) rfl rfl rfl takes0
        (fun W0 pn0 xe0 tk0 po0 => (pss_one (ps_ret (pe_tup (pa_cons pe_str (pa_cons (pe_callS (okX_quotient T) (hr.mono (by decide)) (by rfl) T.m_quotient T.F_quotient.kp T.b_quotient (fun σ => passAt tk0 σ) (pa_cons (pv 0) (pa_cons (pv 1) pa_nil))) pa_nil))))))
        (.cons ⟨by rfl, by decide, .inl T.e_ByNought.g⟩ (fun a oe cls d pn hz hf => (pss_one (ps_ret (pe_tup (pa_cons pe_str (pa_cons (pe_lst pa_nil) pa_nil)))))) (.cons ⟨by rfl, by decide, .inl T.e_NotWhole.g⟩ (fun a oe cls d pn hz hf => (pss_one (ps_ret (pe_tup (pa_cons pe_str (pa_cons (pe_lst pa_nil) pa_nil)))))) .nil)))), ?_⟩
    refine N.go (σ := [some (.ref a), some (.ref b)]) ?_
    by_cases hne : ys = []
    · subst hne
      walk_at "w"
      refine W.callX ?_
      walk_at "w"
      refine WCX1_quotientX (by walk_at "rx") ?_
      refine NX.many T.u_ByNought_ByNought fun e => ?_
      walk_at "w"
      intro z
      walk_at "w"
      refine ⟨by simp, fun p => ?_⟩
      exact NR.sub (c _ [] (.inl ⟨rfl, rfl, rfl⟩) z p) (by walk_at "sub")
    · by_cases hw : ∃ q, Whole xs ys q
      · obtain ⟨q, hw⟩ := hw
        walk_at "w"
        refine W.callB ?_
        walk_at "w"
        refine WCB_quotientX q A B (by walk_at "rx") (by walk_at "rx") hl ht hne hA hB hB9 hAB hw fun z => ?_
        walk_at "w"
        refine ⟨by simp, fun p => ?_⟩
        exact NR.sub (c _ q (.inr (.inl ⟨hne, rfl, hw⟩)) z p) (by walk_at "sub")
      · have hw' : ∀ q, ¬ Whole xs ys q := fun q h => hw ⟨q, h⟩
        walk_at "w"
        refine W.callX ?_
        walk_at "w"
        refine WCX2_quotientX A B (by walk_at "rx") (by walk_at "rx") hl ht hne hA hB hB9 hAB hw' ?_
        refine NX.manyF T.u_NotWhole_ByNought ?_
        refine NX.many T.u_NotWhole_NotWhole fun e => ?_
        walk_at "w"
        intro z
        walk_at "w"
        refine ⟨by simp, fun p => ?_⟩
        exact NR.sub (c _ [] (.inr (.inr ⟨hne, rfl, rfl, hw'⟩)) z p) (by walk_at "sub")

end

section
variable {P : Program} {w : World} {K : PySem.W.Frag} {mg : Str → Option Value} {base : Heap}
def sp__law_refused : Sp := fun vs H Q _ => ∃ (a b : Addr) (xs ys : List Int) (A B : Nat), vs = [.ref a, .ref b] ∧ H a = some (.lst (zV xs)) ∧ H b = some (.lst (zV ys)) ∧ (xs.length ≤ 40000 ∧ ys.length ≤ 40000) ∧ Tr ys ∧ BdL A xs ∧ BdL B ys ∧ (B ≤ 9000) ∧ A + (xs.length + 2 - ys.length) * (B + 1) + B + 1 ≤ 134217728 ∧
  (ys = [] ∨ ∀ q, ¬ Whole xs ys q) ∧ NR Q (.bl true) H []
theorem WC__law_refused {H0 : Hp} {fs : Fs} {Φ : CV} {a b : Addr} {xs ys : List Int} (A B : Nat) (h : Rx H0 fs a (.lst (zV xs))) (h2 : Rx H0 fs b (.lst (zV ys))) (hl : xs.length ≤ 40000 ∧ ys.length ≤ 40000) (ht : Tr ys) (hA : BdL A xs) (hB : BdL B ys) (hB9 : B ≤ 9000) (hAB : A + (xs.length + 2 - ys.length) * (B + 1) + B + 1 ≤ 134217728)
    (hw : ys = [] ∨ ∀ q, ¬ Whole xs ys q) (c : Φ (.bl true) fs) : WC sp__law_refused [.ref a, .ref b] H0 fs Φ :=
  fun H k Q E cc => ⟨a, b, xs, ys, A, B, rfl, h H k, h2 H k, hl, ht, hA, hB, hB9, hAB, hw, fun H' k' => cc _ _ _ (k.app k') c⟩
theorem ok__law_refused (T : Txt K mg) : FnOk P w K mg base CX0 4 T.a__law_refused T.d__law_refused ["_law_row", "_law_by"] sp__law_refused := by
  refine T.F__law_refused.ok sc__law_refused (fun vs H Q E h => ?_) (fun cdv A outer s H vs Q E hr h => ?_)
  · obtain ⟨a, b, xs, ys, A, B, rfl, _⟩ := h; rfl
  · obtain ⟨a, b, xs, ys, A, B, rfl, hXa, hXb, hl, ht, hA, hB, hB9, hAB, hw, c⟩ := h
    refine ⟨_, (pss_cons (ps_try_asK (K := K) (i := 2) (Wout := (fun _ _ _ _ => False)) rfl rfl rfl sc__law_refused.nd rfl rfl ⟨by rfl, by decide, .inl T.e_PolyError.g⟩ takes0
        (fun W0 pn0 xe0 tk0 po0 => (pss_one (ps_expr (pe_callS (okX_quotient T) (hr.mono (by decide)) (by rfl) T.m_quotient T.F_quotient.kp T.b_quotient (fun σ => passAt tk0 σ) (pa_cons (pv 0) (pa_cons (pv 1) pa_nil))))))
        (fun a oe cls d pn hz hf => (pss_one (ps_ret (pe_callB (call_isVK (K := K) rfl hz hf) (by rfl) T.z_isinstance (by decide +kernel) (pa_cons (pv 2) (pa_cons (pe_bltn (v := .ty "ValueError") (by rfl) T.z_ValueError (by decide +kernel) rfl) pa_nil)))))))
      (pss_one (ps_ret pe_bl))), ?_⟩
    refine N.go (σ := [some (.ref a), some (.ref b), none]) ?_
    refine S.seq ?_
    by_cases hne : ys = []
    · subst hne
      walk_at "w"
      refine W.callX ?_
      walk_at "w"
      refine WCX1_quotientX (by walk_at "rx") ?_
      refine NX.as T.u_ByNought_PolyError fun e => ?_
      walk_at "d"
      walk_at "w"
      refine RC.isV T.e_ByNought.i T.e_ByNought.v ?_
      walk_at "fin"
    · have hw' : ∀ q, ¬ Whole xs ys q := hw.resolve_left hne
      walk_at "w"
      refine W.callX ?_
      walk_at "w"
      refine WCX2_quotientX A B (by walk_at "rx") (by walk_at "rx") hl ht hne hA hB hB9 hAB hw' ?_
      refine NX.as T.u_NotWhole_PolyError fun e => ?_
      walk_at "d"
      walk_at "w"
      refine RC.isV T.e_NotWhole.i T.e_NotWhole.v ?_
      walk_at "fin"

end

section
variable {P : Program} {w : World} {K : PySem.W.Frag} {mg : Str → Option Value} {base : Heap}
def sp_law (K : PySem.W.Frag) : Sp := fun vs H Q _ => ∃ (a : Addr) (ns : List Int), vs = [.ref a] ∧ SqL K H a (ns.map V.int) ∧ ns.length ≤ 63 ∧ ∀ H', Q (.bl true) H'
theorem ok_law (T : Txt K mg) : FnOk P w K mg base CX0 5 T.a_law T.d_law ["_law_script"] (sp_law K) := by
  refine T.F_law.ok sc_law (fun vs H Q E h => ?_) (fun cdv A outer s H vs Q E hr h => ?_)
  · obtain ⟨a, ns, rfl, _⟩ := h; rfl
  · obtain ⟨a, ns, rfl, hA, hl, q⟩ := h
    have hA : SqL K H a (zV ns) := hA
    refine ⟨_, (pss_cons (ps_set (i := 1) sc_law.nd rfl (Or.inl rfl) (pe_call (ok__law_cell_at T) (hr.mono (by decide)) (by rfl) T.m__law_cell_at T.F__law_cell_at.kp T.b__law_cell_at .nil pass0 (pa_cons (pv 0) (pa_cons pe_int pa_nil))))
      (pss_cons (ps_set (i := 2) sc_law.nd rfl (Or.inl rfl) (pe_call (ok__law_cell_at T) (hr.mono (by decide)) (by rfl) T.m__law_cell_at T.F__law_cell_at.kp T.b__law_cell_at .nil pass0 (pa_cons (pv 0) (pa_cons pe_int pa_nil))))
      (pss_cons (ps_set (i := 3) sc_law.nd rfl (Or.inl rfl) pe_int)
      (pss_cons (ps_set (i := 4) sc_law.nd rfl (Or.inl rfl) (pe_call (ok__law_cell_at T) (hr.mono (by decide)) (by rfl) T.m__law_cell_at T.F__law_cell_at.kp T.b__law_cell_at .nil pass0 (pa_cons (pv 0) (pa_cons pe_int pa_nil))))
      (pss_cons (ps_if (pt_cmpR op_eq (pe_op op_mod (pv 1) pe_int) pe_int (nomark _)) (pss_one (ps_set (i := 3) sc_law.nd rfl (Or.inl rfl) (pe_op op_mod (pe_op op_fdiv (pv 1) pe_int) pe_int))) pss_nil)
      (pss_cons (ps_set (i := 5) sc_law.nd rfl (Or.inl rfl) (pe_call (ok__law_drawn T) (hr.mono (by decide)) (by rfl) T.m__law_drawn T.F__law_drawn.kp T.b__law_drawn .nil pass0 (pa_cons (pv 0) (pa_cons pe_int (pa_cons (pe_op op_mod (pe_op op_fdiv (pv 2) pe_int) pe_int) (pa_cons pe_int pa_nil))))))
      (pss_cut (ps_if (pt_cmpR op_eq (pe_op op_mod (pv 4) pe_int) pe_int (nomark _)) (pss_one (ps_set (i := 5) sc_law.nd rfl (Or.inl rfl) (pe_call (ok__law_drawn T) (hr.mono (by decide)) (by rfl) T.m__law_drawn T.F__law_drawn.kp T.b__law_drawn .nil pass0 (pa_cons (pv 0) (pa_cons pe_int (pa_cons pe_int (pa_cons (pe_op op_add pe_int (pe_op op_mod (pe_op op_fdiv (pv 4) pe_int) pe_int)) pa_nil))))))) pss_nil)
      (pss_cons (ps_set (i := 3) sc_law.nd rfl (Or.inl rfl) (pe_callB (cMin2 rfl) (by rfl) T.z_min (by decide +kernel) (pa_cons (pv 3) (pa_cons (pe_op op_sub pe_int (pe_callB cLen (by rfl) T.z_len PySem.boot_len (pa_cons (pv 5) pa_nil))) pa_nil))))
      (pss_cons (ps_set (i := 6) sc_law.nd rfl (Or.inl rfl) (pe_call (ok__law_times T) (hr.mono (by decide)) (by rfl) T.m__law_times T.F__law_times.kp T.b__law_times .nil pass0 (pa_cons (pe_call (ok__law_drawn T) (hr.mono (by decide)) (by rfl) T.m__law_drawn T.F__law_drawn.kp T.b__law_drawn .nil pass0 (pa_cons (pv 0) (pa_cons pe_int (pa_cons (pe_op op_mod (pe_op op_fdiv (pv 1) pe_int) pe_int) (pa_cons (pv 3) pa_nil))))) (pa_cons (pv 5) pa_nil))))
      (pss_cut (ps_if (PW.pt (pw_and (pt_cmpR op_eq (pe_op op_mod (pv 2) pe_int) pe_int (nomark _)) (pw_and1 (pt_cmpR (op_neD hr.units) (pv 6) (pe_lst pa_nil) (nomark _))))) (pss_cons (ps_set (i := 7) sc_law.nd rfl (Or.inl rfl) (pe_op op_mod (pe_op op_fdiv (pv 4) pe_int) (pe_callB cLen (by rfl) T.z_len PySem.boot_len (pa_cons (pv 6) pa_nil))))
      (pss_one (ps_set (i := 6) sc_law.nd rfl (Or.inl rfl) (pe_call (ok__law_trim T) (hr.mono (by decide)) (by rfl) T.m__law_trim T.F__law_trim.kp T.b__law_trim .nil pass0 (pa_cons (pe_op op_cat (pe_op op_cat (pe_slice sl_list (pv 6) po_none (po_some (pv 7))) (pe_lst (pa_cons (pe_op op_add (pe_ix ix_list (pv 6) (pv 7) (fun _ _ => rfl)) pe_int) pa_nil))) (pe_slice sl_list (pv 6) (po_some (pe_op op_add (pv 7) pe_int)) po_none)) pa_nil))))) pss_nil)
      (pss_cut (ps_if (pt_cmpR op_eq (pe_op op_mod (pv 2) pe_int) pe_int (nomark _)) (pss_one (ps_setLc (i := 5) (own := [("_law_number_here", 11)]) (g := gName 11) (tt := tYes) rfl sc_law.nd rfl rfl (sw_true rfl rfl rfl (by decide +kernel)) (pi_list (pv 5)) (blkOk_by (own := [("_law_number_here", 11)]) (N := ["_law_script", "_law_first", "_law_second", "_law_many", "_law_third", "_law_by", "_law_row", "_law_place", "_law_handed", "_law_found", "_law_due", "_law_number_here"]) (sc := defScope s_law) (by decide +kernel)) (fun _ _ _ _ _ => pg_name (i := 11) sc_law.nd rfl (Or.inl rfl)) (fun _ _ _ _ _ => pts_nil) (fun _ _ _ _ _ => (pe_op op_mulG pe_int (pv 11))))) pss_nil)
      (pss_cons (ps_set (i := 8) sc_law.nd rfl (Or.inl rfl) (pe_lst (pa_cons (pe_callTy cListOf (by rfl) T.z_list (by decide +kernel) (pa_cons (pv 6) pa_nil)) (pa_cons (pe_callTy cListOf (by rfl) T.z_list (by decide +kernel) (pa_cons (pv 5) pa_nil)) pa_nil))))
      (pss_cons (ps_set (i := 9) sc_law.nd rfl (Or.inl rfl) (pe_call (ok__law_told T) (hr.mono (by decide)) (by rfl) T.m__law_told T.F__law_told.kp T.b__law_told .nil pass0 (pa_cons (pe_ix ix_list (pv 8) pe_int (fun _ _ => rfl)) (pa_cons (pe_ix ix_list (pv 8) pe_int (fun _ _ => rfl)) pa_nil))))
      (pss_cons (ps_if (PW.pt (pw_or (pt_not (pt_val (pe_call (ok__law_same T) (hr.mono (by decide)) (by rfl) T.m__law_same T.F__law_same.kp T.b__law_same .nil pass0 (pa_cons (pe_ix ix_list (pv 8) pe_int (fun _ _ => rfl)) (pa_cons (pv 6) pa_nil))))) (pw_or1 (pt_not (pt_val (pe_call (ok__law_same T) (hr.mono (by decide)) (by rfl) T.m__law_same T.F__law_same.kp T.b__law_same .nil pass0 (pa_cons (pe_ix ix_list (pv 8) pe_int (fun _ _ => rfl)) (pa_cons (pv 5) pa_nil)))))))) (pss_one (ps_ret pe_bl)) pss_nil)
      (pss_cons (ps_if (pt_cmpR (op_eqD hr.units) (pv 5) (pe_lst pa_nil) (nomark _)) (pss_one (ps_ret (pe_and (pe_cmpR op_eq (pe_ix ix_tup (pv 9) pe_int (fun _ _ => rfl)) pe_str (nomark _)) (pe_one (pe_call (ok__law_refused T) (hr.mono (by decide)) (by rfl) T.m__law_refused T.F__law_refused.kp T.b__law_refused .nil pass0 (pa_cons (pe_ix ix_list (pv 8) pe_int (fun _ _ => rfl)) (pa_cons (pe_ix ix_list (pv 8) pe_int (fun _ _ => rfl)) pa_nil))))))) pss_nil)
      (pss_cons (ps_set (i := 10) sc_law.nd rfl (Or.inl rfl) (pe_call (ok__law_quotient T) (hr.mono (by decide)) (by rfl) T.m__law_quotient T.F__law_quotient.kp T.b__law_quotient .nil pass0 (pa_cons (pv 6) (pa_cons (pv 5) pa_nil))))
      (pss_cons (ps_if (pt_cmpR op_isNo (pv 10) pe_non (nomark _)) (pss_one (ps_ret (pe_and (pe_cmpR op_eq (pe_ix ix_tup (pv 9) pe_int (fun _ _ => rfl)) pe_str (nomark _)) (pe_one (pe_call (ok__law_refused T) (hr.mono (by decide)) (by rfl) T.m__law_refused T.F__law_refused.kp T.b__law_refused .nil pass0 (pa_cons (pe_ix ix_list (pv 8) pe_int (fun _ _ => rfl)) (pa_cons (pe_ix ix_list (pv 8) pe_int (fun _ _ => rfl)) pa_nil))))))) pss_nil)
      (pss_cons (ps_if (PW.pt (pw_or (pt_cmpR op_ne (pe_ix ix_tup (pv 9) pe_int (fun _ _ => rfl)) pe_str (nomark _)) (pw_or1 (pt_not (pt_val (pe_call (ok__law_same T) (hr.mono (by decide)) (by rfl) T.m__law_same T.F__law_same.kp T.b__law_same .nil pass0 (pa_cons (pe_ix ix_tup (pv 9) pe_int (fun _ _ => rfl)) (pa_cons (pv 10) pa_nil)))))))) (pss_one (ps_ret pe_bl)) pss_nil)
      (pss_cons (ps_expr (pe_bm PySem.F.plainAttrs_list PySem.F.slot_list_append PySem.F.type_list_append mt_append (pe_ix ix_tup (pv 9) pe_int (fun _ _ => rfl)) (pa_cons pe_int pa_nil)))
      (pss_cons (ps_if (pt_not (pt_val (pe_call (ok__law_same T) (hr.mono (by decide)) (by rfl) T.m__law_same T.F__law_same.kp T.b__law_same .nil pass0 (pa_cons (pe_call (ok_quotient T) (hr.mono (by decide)) (by rfl) T.m_quotient T.F_quotient.kp T.b_quotient .nil pass0 (pa_cons (pe_ix ix_list (pv 8) pe_int (fun _ _ => rfl)) (pa_cons (pe_ix ix_list (pv 8) pe_int (fun _ _ => rfl)) pa_nil))) (pa_cons (pv 10) pa_nil))))) (pss_one (ps_ret pe_bl)) pss_nil)
      (pss_one (ps_ret (pe_and (pe_call (ok__law_same T) (hr.mono (by decide)) (by rfl) T.m__law_same T.F__law_same.kp T.b__law_same .nil pass0 (pa_cons (pe_ix ix_list (pv 8) pe_int (fun _ _ => rfl)) (pa_cons (pv 6) pa_nil))) (pe_one (pe_call (ok__law_same T) (hr.mono (by decide)) (by rfl) T.m__law_same T.F__law_same.kp T.b__law_same .nil pass0 (pa_cons (pe_ix ix_list (pv 8) pe_int (fun _ _ => rfl)) (pa_cons (pv 5) pa_nil))))))))))))))))))))))))))), ?_⟩
    refine N.go (σ := [some (.ref a), none, none, none, none, none, none, none, none, none, none, none]) ?_
    walk_at "w"
    refine WC__law_cell_at (ns := ns) (by walk_at "rl") (by omega) ?_
    generalize gat ns 0 = first
    walk_at "d"
    walk_at "w"
    refine WC__law_cell_at (ns := ns) (by walk_at "rl") (by omega) ?_
    generalize gat ns 1 = second
    walk_at "d"
    walk_at "w0"
    walk_at "d"
    walk_at "w0"
    refine WC__law_cell_at (ns := ns) (by walk_at "rl") (by omega) ?_
    generalize gat ns 2 = third
    walk_at "d"
    obtain ⟨many, hmany⟩ : ∃ m, m = if first % 4 = 1 then first / 4 % 101 else 0 := ⟨_, rfl⟩
    have hm : 0 ≤ many ∧ many ≤ 100 := by
      rw [hmany]; split <;> omega
    refine S.seq ?_
    refine S.ifset (.int many) ?_ ?_
    · walk_at "w"
      refine ⟨rfl, fun hb => ?_, fun hb => ?_⟩
      · walk_at "w"
        rw [hmany, if_pos (of_decide_eq_true hb)]
        exact ⟨rfl, rfl⟩
      · rw [hmany, if_neg (of_decide_eq_false hb)]
        rfl
    walk_at "d"
    walk_at "w"
    refine WC__law_drawn (ns := ns) (by walk_at "rl") (by omega) (by omega) (by omega) fun r1 => ?_
    have hlen1 : (drawn ns 10 (second / 3 % 5) 0).length ≤ 90 := drawn_len2 ns (n := 90) (by omega) (by omega)
    have hbd1 := drawn_bd ns 10 (second / 3 % 5) 0
    have htr1 := drawn_tr ns 10 (second / 3 % 5) 0
    generalize drawn ns 10 (second / 3 % 5) 0 = oth at hlen1 hbd1 htr1
    walk_at "d"
    refine S.cut (fun σ f => ∃ r2 ys, σ = [some (.ref a), some (.int first), some (.int second), some (.int many), some (.int third), some (.ref r2), none, none, none, none, none, none] ∧ f = [(r2, .lst (zV ys))] ∧ ys.length ≤ 90 ∧ BdL 140 ys ∧ Tr ys) ?_ ?_
    · walk_at "w"
      walk_at "if"
      · walk_at "w"
        refine WC__law_drawn (ns := ns) (by walk_at "rl") (by omega) (by omega) (by omega) fun r => ?_
        walk_at "d"
        have hl3 : (drawn ns 10 0 (1 + third / 5 % 90)).length ≤ 90 := drawn_len2 ns (n := 90) (by omega) (by omega)
        refine Un.sub [(r, .lst (zV (drawn ns 10 0 (1 + third / 5 % 90))))] (by walk_at "sub") ?_
        exact ⟨r, _, rfl, rfl, hl3, drawn_bd _ _ _ _, drawn_tr _ _ _ _⟩
      · walk_at "w"
        walk_at "un"
        exact ⟨r1, oth, rfl, rfl, hlen1, hbd1, htr1⟩
    clear hlen1 hbd1 htr1
    rintro σ f ⟨r2, ys, rfl, rfl, hlen2, hbd2, htr2⟩
    walk_at "w"
    walk_at "d"
    walk_at "w"
    refine WC__law_drawn (ns := ns) (by walk_at "rl") (by omega) (by omega) (by omega) fun r1 => ?_
    have hlen1 : (drawn ns 3 (first / 4 % 7) (min many (101 - (ys.length : Int)))).length ≤ 101 := drawn_len ns (by omega) (by omega)
    have hbd1 := drawn_bd ns 3 (first / 4 % 7) (min many (101 - (ys.length : Int)))
    generalize drawn ns 3 (first / 4 % 7) (min many (101 - (ys.length : Int))) = ones at hlen1 hbd1
    walk_at "w"
    refine WC__law_times (xs := ones) (ys := ys) 140 140 (by walk_at "rx") (by walk_at "rx") ⟨by omega, by omega⟩ hbd1 hbd2 (by omega) fun t1 => ?_
    have htl := tm_len ones ys
    have htb := tm_bd (c := 7) hbd1 hbd2 (by omega)
    generalize tm ones ys = prod at htl htb
    walk_at "d"
    refine N.sub [(t1, .lst (zV prod)), (r2, .lst (zV ys))] (by walk_at "sub") ?_
    refine S.cut (fun σ f => ∃ r xs z1 z2, σ = [some (.ref a), some (.int first), some (.int second), z1, some (.int third), some (.ref r2), some (.ref r), z2, none, none, none, none] ∧ f = [(r, .lst (zV xs)), (r2, .lst (zV ys))] ∧ xs.length ≤ 200 ∧ BdL 290 xs) ?_ ?_
    · walk_at "w"
      walk_at "if"
      · walk_at "w"
        intro z
        walk_at "w"
        walk_at "if"
        · rename_i hne
          have hpos : 0 < prod.length := List.length_pos_iff.mpr hne
          walk_at "w"
          have h1 := Int.emod_nonneg (third / 5) (show (prod.length : Int) ≠ 0 by omega)
          have h2 := Int.emod_lt_of_pos (third / 5) (show (0 : Int) < (prod.length : Int) by omega)
          walk_at "d"
          generalize hpl : third / 5 % (prod.length : Int) = place at h1 h2
          walk_at "w"
          intro l1
          walk_at "w"
          intro l2
          walk_at "w"
          refine RW.catZ (by walk_at "rx") (by walk_at "rx") (by simp; omega) fun l3 => ?_
          walk_at "w"
          intro l4
          refine RW.catZ (by walk_at "rx") (by walk_at "rx") (by simp; omega) fun l5 => ?_
          walk_at "w"
          refine WC__law_trim (by walk_at "rx") (by simp; omega) fun r3 => ?_
          walk_at "d"
          refine Un.sub [(r3, _), (r2, .lst (zV ys))] (.cons_cons _ (by walk_at "sub")) ?_
          refine ⟨r3, _, _, _, rfl, rfl, Nat.le_trans (trim_length_le _) (by simp; omega), BdL.trim fun x hx => ?_⟩
          rcases List.mem_append.mp hx with hx | hx
          · rcases List.mem_append.mp hx with hx | hx
            · exact Bd.mono (htb x (List.mem_of_mem_take hx)) (by omega)
            · rw [List.mem_singleton.mp hx]
              exact (Bd.add (htb.gat _) (show Bd 287 1 by unfold Bd; decide)).mono (by omega)
          · exact Bd.mono (htb x (List.mem_of_mem_drop hx)) (by omega)
        · walk_at "w"
          refine Un.sub [(t1, .lst (zV prod)), (r2, .lst (zV ys))] (by walk_at "sub") ?_
          exact ⟨t1, prod, _, _, rfl, rfl, by omega, htb.mono (by omega)⟩
      · walk_at "w"
        walk_at "un"
        exact ⟨t1, prod, _, _, rfl, rfl, by omega, htb.mono (by omega)⟩
    clear hlen1 hbd1 htl htb
    rintro σ f ⟨r, xs, z1, z2, rfl, rfl, hlen1, hbd1⟩
    refine S.cut (fun σ f => ∃ r2 ys, σ = [some (.ref a), some (.int first), some (.int second), z1, some (.int third), some (.ref r2), some (.ref r), z2, none, none, none, none] ∧ f = [(r2, .lst (zV ys)), (r, .lst (zV xs))] ∧ ys.length ≤ 90 ∧ BdL 142 ys ∧ Tr ys) ?_ ?_
    · walk_at "w"
      walk_at "if"
      · walk_at "w"
        refine W.lcZz (ns := ys) (fun x => 2 * x) ?_
        walk_at "w"
        refine ⟨by walk_at "rl", by omega, fun _ => rfl, fun x D acc hx => ?_, fun D => ?_⟩
        · walk_at "d"
          walk_at "w"
          exact ⟨rfl, by walk_at "sub"⟩
        walk_at "d"
        refine Un.sub [(D, .lst (zV (ys.map fun x => 2 * x))), (r, .lst (zV xs))] (by walk_at "sub") ?_
        refine ⟨D, _, rfl, rfl, by rw [List.length_map]; omega, fun x hx => ?_, ?_⟩
        · obtain ⟨y, hy, rfl⟩ := List.mem_map.mp hx
          exact Bd.mul (a := 2) (show Bd 2 2 by unfold Bd; decide) (hbd2 y hy)
        · rcases snoc_cases ys with rfl | ⟨us, u, rfl⟩
          · exact tr_nil
          · have hu : u ≠ 0 := by simpa using tr_last htr2 (by simp)
            rw [List.map_append]
            exact tr_of_last (by show 2 * u ≠ 0; omega)
      · walk_at "w"
        refine N.swap ?_
        walk_at "un"
        exact ⟨r2, ys, rfl, rfl, hlen2, hbd2.mono (by omega), htr2⟩
    clear hlen2 hbd2 htr2
    rintro σ f ⟨r2, ys, rfl, rfl, hlen2, hbd2, htr2⟩
    have hAB : 290 + (xs.length + 2 - ys.length) * (142 + 1) + 142 + 1 ≤ 134217728 := by omega
    walk_at "w"
    intro c1
    walk_at "w"
    intro c2
    walk_at "w"
    refine ⟨by simp, fun hh => ?_⟩
    walk_at "d"
    walk_at "w"
    refine WC__law_told (xs := xs) (ys := ys) 290 142 (by walk_at "rx") (by walk_at "rx") ⟨by omega, by omega⟩ htr2 hbd1 hbd2 (by omega) hAB fun t l htold zz p => ?_
    walk_at "d"
    walk_at "w"
    refine WC__law_same (xs := xs) (by walk_at "rx") (by walk_at "rx") (by omega) ?_
    walk_at "w"
    refine WC__law_same (xs := ys) (by walk_at "rx") (by walk_at "rx") (by omega) ?_
    walk_at "w"
    intro z
    walk_at "w"
    walk_at "if"
    · rename_i he
      subst he
      have ht : t = "by nought" := by
        rcases htold with ⟨_, h, _⟩ | ⟨h, _⟩ | ⟨h, _⟩
        · exact h
        · exact absurd rfl h
        · exact absurd rfl h
      subst ht
      walk_at "w"
      refine WC__law_refused (xs := xs) (ys := []) 290 142 (by walk_at "rx") (by walk_at "rx") ⟨by omega, by omega⟩ htr2 hbd1 hbd2 (by omega) hAB (.inl rfl) ?_
      exact fun H' _ => q H'
    rename_i hne
    walk_at "w"
    refine WC__law_quotient (xs := xs) (ys := ys) 290 142 (by walk_at "rx") (by walk_at "rx") ⟨by omega, by omega⟩ htr2 hne hbd1 hbd2 (by omega) hAB (fun qq hw dd => ?_) (fun hw => ?_)
    · have hql : qq.length ≤ 1000 := by
        have := hw.len htr2 hne
        omega
      have ht : t = "told" ∧ l = qq := by
        rcases htold with ⟨h, _⟩ | ⟨_, h, h2⟩ | ⟨_, _, _, h⟩
        · exact absurd h hne
        · exact ⟨h, Whole.unique htr2 hne h2 hw⟩
        · exact absurd hw (h qq)
      obtain ⟨rfl, rfl⟩ := ht
      walk_at "d"
      walk_at "w"
      refine WC__law_same (xs := l) (by walk_at "rx") (by walk_at "rx") (by omega) ?_
      walk_at "w"
      walk_at "app"
      · rw [zV_length]; omega
      walk_at "d"
      walk_at "w"
      refine WC_quotient (xs := xs) (ys := ys) l 290 142 (by walk_at "rx") (by walk_at "rx") ⟨by omega, by omega⟩ htr2 hne hbd1 hbd2 (by omega) hAB hw fun f2 => ?_
      walk_at "w"
      refine WC__law_same (xs := l) (by walk_at "rx") (by walk_at "rx") (by omega) ?_
      walk_at "w"
      refine WC__law_same (xs := xs) (by walk_at "rx") (by walk_at "rx") (by omega) ?_
      walk_at "w"
      refine WC__law_same (xs := ys) (by walk_at "rx") (by walk_at "rx") (by omega) ?_
      exact fun H' _ => q H'
    · have ht : t = "not whole" := by
        rcases htold with ⟨h, _⟩ | ⟨_, _, h2⟩ | ⟨_, h, _⟩
        · exact absurd h hne
        · exact absurd h2 (hw _)
        · exact h
      subst ht
      walk_at "d"
      walk_at "w"
      refine WC__law_refused (xs := xs) (ys := ys) 290 142 (by walk_at "rx") (by walk_at "rx") ⟨by omega, by omega⟩ htr2 hbd1 hbd2 (by omega) hAB (.inr hw) ?_
      exact fun H' _ => q H'

end
open PySem PySem.Spec PyProof.Rows L2 in
theorem all_mk {l : PySem.W.OpenLaw} {w : World} {K : PySem.W.Frag} {h : Heap} {mg : Str → Option Value} {fa : Addr} (X : K.In h) (G : h.Ns mainGlobals mg) (hfa : mg "law" = some (.ref fa))
    {f_greatest f_trimmed f_divided f_quotient f__law_whole f__law_cell_at f__law_trim f__law_same f__law_number f__law_drawn f__law_times f__law_quotient f__law_told f__law_refused f_law : Addr} {od_greatest an_greatest od_trimmed an_trimmed od_divided an_divided od_quotient an_quotient od__law_whole an__law_whole od__law_cell_at an__law_cell_at od__law_trim an__law_trim od__law_same an__law_same od__law_number an__law_number od__law_drawn an__law_drawn od__law_times an__law_times od__law_quotient an__law_quotient od__law_told an__law_told od__law_refused an__law_refused od_law an_law : Option Addr} {sl_greatest sl_trimmed sl_divided sl_quotient sl__law_whole sl__law_cell_at sl__law_trim sl__law_same sl__law_number sl__law_drawn sl__law_times sl__law_quotient sl__law_told sl__law_refused sl_law : Array (Option Value)} {oc_greatest kV_greatest dc_greatest pm_greatest cd_greatest ct_greatest oc_trimmed kV_trimmed dc_trimmed pm_trimmed cd_trimmed ct_trimmed oc_divided kV_divided dc_divided pm_divided cd_divided ct_divided oc_quotient kV_quotient dc_quotient pm_quotient cd_quotient ct_quotient oc__law_whole kV__law_whole dc__law_whole pm__law_whole cd__law_whole ct__law_whole oc__law_cell_at kV__law_cell_at dc__law_cell_at pm__law_cell_at cd__law_cell_at ct__law_cell_at oc__law_trim kV__law_trim dc__law_trim pm__law_trim cd__law_trim ct__law_trim oc__law_same kV__law_same dc__law_same pm__law_same cd__law_same ct__law_same oc__law_number kV__law_number dc__law_number pm__law_number cd__law_number ct__law_number oc__law_drawn kV__law_drawn dc__law_drawn pm__law_drawn cd__law_drawn ct__law_drawn oc__law_times kV__law_times dc__law_times pm__law_times cd__law_times ct__law_times oc__law_quotient kV__law_quotient dc__law_quotient pm__law_quotient cd__law_quotient ct__law_quotient oc__law_told kV__law_told dc__law_told pm__law_told cd__law_told ct__law_told oc__law_refused kV__law_refused dc__law_refused pm__law_refused cd__law_refused ct__law_refused oc_law kV_law dc_law pm_law cd_law ct_law : Value}
    (a_greatest : PySem.W.nsIn K mainGlobals "greatest" = some (some (.ref f_greatest))) (l_greatest : K.lookup f_greatest = some ⟨oc_greatest, od_greatest, .func (PySem.W.fnOf "greatest" "greatest" (defArgs s_greatest) (defBody s_greatest) (defScope s_greatest) .none kV_greatest dc_greatest pm_greatest an_greatest cd_greatest ct_greatest), sl_greatest⟩) (c_greatest : PySem.W.codeIn K cd_greatest "greatest" = true) (k_greatest : PySem.W.keepIn K (.ref f_greatest) = true)
    (a_trimmed : PySem.W.nsIn K mainGlobals "trimmed" = some (some (.ref f_trimmed))) (l_trimmed : K.lookup f_trimmed = some ⟨oc_trimmed, od_trimmed, .func (PySem.W.fnOf "trimmed" "trimmed" (defArgs s_trimmed) (defBody s_trimmed) (defScope s_trimmed) .none kV_trimmed dc_trimmed pm_trimmed an_trimmed cd_trimmed ct_trimmed), sl_trimmed⟩) (c_trimmed : PySem.W.codeIn K cd_trimmed "trimmed" = true) (k_trimmed : PySem.W.keepIn K (.ref f_trimmed) = true)
    (a_divided : PySem.W.nsIn K mainGlobals "divided" = some (some (.ref f_divided))) (l_divided : K.lookup f_divided = some ⟨oc_divided, od_divided, .func (PySem.W.fnOf "divided" "divided" (defArgs s_divided) (defBody s_divided) (defScope s_divided) .none kV_divided dc_divided pm_divided an_divided cd_divided ct_divided), sl_divided⟩) (c_divided : PySem.W.codeIn K cd_divided "divided" = true) (k_divided : PySem.W.keepIn K (.ref f_divided) = true)
    (a_quotient : PySem.W.nsIn K mainGlobals "quotient" = some (some (.ref f_quotient))) (l_quotient : K.lookup f_quotient = some ⟨oc_quotient, od_quotient, .func (PySem.W.fnOf "quotient" "quotient" (defArgs s_quotient) (defBody s_quotient) (defScope s_quotient) .none kV_quotient dc_quotient pm_quotient an_quotient cd_quotient ct_quotient), sl_quotient⟩) (c_quotient : PySem.W.codeIn K cd_quotient "quotient" = true) (k_quotient : PySem.W.keepIn K (.ref f_quotient) = true)
    (a__law_whole : PySem.W.nsIn K mainGlobals "_law_whole" = some (some (.ref f__law_whole))) (l__law_whole : K.lookup f__law_whole = some ⟨oc__law_whole, od__law_whole, .func (PySem.W.fnOf "_law_whole" "_law_whole" (defArgs s__law_whole) (defBody s__law_whole) (defScope s__law_whole) .none kV__law_whole dc__law_whole pm__law_whole an__law_whole cd__law_whole ct__law_whole), sl__law_whole⟩) (c__law_whole : PySem.W.codeIn K cd__law_whole "_law_whole" = true) (k__law_whole : PySem.W.keepIn K (.ref f__law_whole) = true)
    (a__law_cell_at : PySem.W.nsIn K mainGlobals "_law_cell_at" = some (some (.ref f__law_cell_at))) (l__law_cell_at : K.lookup f__law_cell_at = some ⟨oc__law_cell_at, od__law_cell_at, .func (PySem.W.fnOf "_law_cell_at" "_law_cell_at" (defArgs s__law_cell_at) (defBody s__law_cell_at) (defScope s__law_cell_at) .none kV__law_cell_at dc__law_cell_at pm__law_cell_at an__law_cell_at cd__law_cell_at ct__law_cell_at), sl__law_cell_at⟩) (c__law_cell_at : PySem.W.codeIn K cd__law_cell_at "_law_cell_at" = true) (k__law_cell_at : PySem.W.keepIn K (.ref f__law_cell_at) = true)
    (a__law_trim : PySem.W.nsIn K mainGlobals "_law_trim" = some (some (.ref f__law_trim))) (l__law_trim : K.lookup f__law_trim = some ⟨oc__law_trim, od__law_trim, .func (PySem.W.fnOf "_law_trim" "_law_trim" (defArgs s__law_trim) (defBody s__law_trim) (defScope s__law_trim) .none kV__law_trim dc__law_trim pm__law_trim an__law_trim cd__law_trim ct__law_trim), sl__law_trim⟩) (c__law_trim : PySem.W.codeIn K cd__law_trim "_law_trim" = true) (k__law_trim : PySem.W.keepIn K (.ref f__law_trim) = true)
    (a__law_same : PySem.W.nsIn K mainGlobals "_law_same" = some (some (.ref f__law_same))) (l__law_same : K.lookup f__law_same = some ⟨oc__law_same, od__law_same, .func (PySem.W.fnOf "_law_same" "_law_same" (defArgs s__law_same) (defBody s__law_same) (defScope s__law_same) .none kV__law_same dc__law_same pm__law_same an__law_same cd__law_same ct__law_same), sl__law_same⟩) (c__law_same : PySem.W.codeIn K cd__law_same "_law_same" = true) (k__law_same : PySem.W.keepIn K (.ref f__law_same) = true)
    (a__law_number : PySem.W.nsIn K mainGlobals "_law_number" = some (some (.ref f__law_number))) (l__law_number : K.lookup f__law_number = some ⟨oc__law_number, od__law_number, .func (PySem.W.fnOf "_law_number" "_law_number" (defArgs s__law_number) (defBody s__law_number) (defScope s__law_number) .none kV__law_number dc__law_number pm__law_number an__law_number cd__law_number ct__law_number), sl__law_number⟩) (c__law_number : PySem.W.codeIn K cd__law_number "_law_number" = true) (k__law_number : PySem.W.keepIn K (.ref f__law_number) = true)
    (a__law_drawn : PySem.W.nsIn K mainGlobals "_law_drawn" = some (some (.ref f__law_drawn))) (l__law_drawn : K.lookup f__law_drawn = some ⟨oc__law_drawn, od__law_drawn, .func (PySem.W.fnOf "_law_drawn" "_law_drawn" (defArgs s__law_drawn) (defBody s__law_drawn) (defScope s__law_drawn) .none kV__law_drawn dc__law_drawn pm__law_drawn an__law_drawn cd__law_drawn ct__law_drawn), sl__law_drawn⟩) (c__law_drawn : PySem.W.codeIn K cd__law_drawn "_law_drawn" = true) (k__law_drawn : PySem.W.keepIn K (.ref f__law_drawn) = true)
    (a__law_times : PySem.W.nsIn K mainGlobals "_law_times" = some (some (.ref f__law_times))) (l__law_times : K.lookup f__law_times = some ⟨oc__law_times, od__law_times, .func (PySem.W.fnOf "_law_times" "_law_times" (defArgs s__law_times) (defBody s__law_times) (defScope s__law_times) .none kV__law_times dc__law_times pm__law_times an__law_times cd__law_times ct__law_times), sl__law_times⟩) (c__law_times : PySem.W.codeIn K cd__law_times "_law_times" = true) (k__law_times : PySem.W.keepIn K (.ref f__law_times) = true)
    (a__law_quotient : PySem.W.nsIn K mainGlobals "_law_quotient" = some (some (.ref f__law_quotient))) (l__law_quotient : K.lookup f__law_quotient = some ⟨oc__law_quotient, od__law_quotient, .func (PySem.W.fnOf "_law_quotient" "_law_quotient" (defArgs s__law_quotient) (defBody s__law_quotient) (defScope s__law_quotient) .none kV__law_quotient dc__law_quotient pm__law_quotient an__law_quotient cd__law_quotient ct__law_quotient), sl__law_quotient⟩) (c__law_quotient : PySem.W.codeIn K cd__law_quotient "_law_quotient" = true) (k__law_quotient : PySem.W.keepIn K (.ref f__law_quotient) = true)
    (a__law_told : PySem.W.nsIn K mainGlobals "_law_told" = some (some (.ref f__law_told))) (l__law_told : K.lookup f__law_told = some ⟨oc__law_told, od__law_told, .func (PySem.W.fnOf "_law_told" "_law_told" (defArgs s__law_told) (defBody s__law_told) (defScope s__law_told) .none kV__law_told dc__law_told pm__law_told an__law_told cd__law_told ct__law_told), sl__law_told⟩) (c__law_told : PySem.W.codeIn K cd__law_told "_law_told" = true) (k__law_told : PySem.W.keepIn K (.ref f__law_told) = true)
    (a__law_refused : PySem.W.nsIn K mainGlobals "_law_refused" = some (some (.ref f__law_refused))) (l__law_refused : K.lookup f__law_refused = some ⟨oc__law_refused, od__law_refused, .func (PySem.W.fnOf "_law_refused" "_law_refused" (defArgs s__law_refused) (defBody s__law_refused) (defScope s__law_refused) .none kV__law_refused dc__law_refused pm__law_refused an__law_refused cd__law_refused ct__law_refused), sl__law_refused⟩) (c__law_refused : PySem.W.codeIn K cd__law_refused "_law_refused" = true) (k__law_refused : PySem.W.keepIn K (.ref f__law_refused) = true)
    (a_law : PySem.W.nsIn K mainGlobals "law" = some (some (.ref f_law))) (l_law : K.lookup f_law = some ⟨oc_law, od_law, .func (PySem.W.fnOf "law" "law" (defArgs s_law) (defBody s_law) (defScope s_law) .none kV_law dc_law pm_law an_law cd_law ct_law), sl_law⟩) (c_law : PySem.W.codeIn K cd_law "law" = true) (k_law : PySem.W.keepIn K (.ref f_law) = true)
    {A_PolyError : Addr} (g_PolyError : PySem.W.nsIn K mainGlobals "PolyError" = some (some (.ref A_PolyError))) (x_PolyError : PySem.W.excIn K A_PolyError veT "ValueError.__new__" = true) (k_PolyError : PySem.W.keepIn K (.ref A_PolyError) = true) (b_PolyError : PySem.W.subIn K (.ref A_PolyError) (.type "BaseException") = some true) (t_PolyError : PySem.W.typeIn K (.ref A_PolyError) = some (.type "type")) (h_PolyError : PySem.W.hasDictIn K A_PolyError = true)
    (ig_PolyError : PySem.W.findIn K (.ref A_PolyError) "__getattribute__" = some (some (.builtin "BaseException.__getattribute__"))) (ik_PolyError : PySem.W.findIn K (.ref A_PolyError) "__getattr__" = some none) (ia_PolyError : PySem.W.findIn K (.ref A_PolyError) "__class__" = some (some (.builtin "object.__class__"))) (in_PolyError : PySem.W.specialIn K (.builtin "object.__class__") "__get__" = some (some (.builtin "getset_descriptor.__get__"))) (it_PolyError : PySem.W.takesIn K (.builtin "object.__class__") = some true) (im_PolyError : PySem.W.mroIn K A_PolyError (.type "object") = some true) (v_PolyError : PySem.W.subIn K (.ref A_PolyError) (.type "ValueError") = some true)
    {A_ByNought : Addr} (g_ByNought : PySem.W.nsIn K mainGlobals "ByNought" = some (some (.ref A_ByNought))) (x_ByNought : PySem.W.excIn K A_ByNought veT "ValueError.__new__" = true) (k_ByNought : PySem.W.keepIn K (.ref A_ByNought) = true) (b_ByNought : PySem.W.subIn K (.ref A_ByNought) (.type "BaseException") = some true) (t_ByNought : PySem.W.typeIn K (.ref A_ByNought) = some (.type "type")) (h_ByNought : PySem.W.hasDictIn K A_ByNought = true)
    (ig_ByNought : PySem.W.findIn K (.ref A_ByNought) "__getattribute__" = some (some (.builtin "BaseException.__getattribute__"))) (ik_ByNought : PySem.W.findIn K (.ref A_ByNought) "__getattr__" = some none) (ia_ByNought : PySem.W.findIn K (.ref A_ByNought) "__class__" = some (some (.builtin "object.__class__"))) (in_ByNought : PySem.W.specialIn K (.builtin "object.__class__") "__get__" = some (some (.builtin "getset_descriptor.__get__"))) (it_ByNought : PySem.W.takesIn K (.builtin "object.__class__") = some true) (im_ByNought : PySem.W.mroIn K A_ByNought (.type "object") = some true) (v_ByNought : PySem.W.subIn K (.ref A_ByNought) (.type "ValueError") = some true)
    {A_NotWhole : Addr} (g_NotWhole : PySem.W.nsIn K mainGlobals "NotWhole" = some (some (.ref A_NotWhole))) (x_NotWhole : PySem.W.excIn K A_NotWhole veT "ValueError.__new__" = true) (k_NotWhole : PySem.W.keepIn K (.ref A_NotWhole) = true) (b_NotWhole : PySem.W.subIn K (.ref A_NotWhole) (.type "BaseException") = some true) (t_NotWhole : PySem.W.typeIn K (.ref A_NotWhole) = some (.type "type")) (h_NotWhole : PySem.W.hasDictIn K A_NotWhole = true)
    (ig_NotWhole : PySem.W.findIn K (.ref A_NotWhole) "__getattribute__" = some (some (.builtin "BaseException.__getattribute__"))) (ik_NotWhole : PySem.W.findIn K (.ref A_NotWhole) "__getattr__" = some none) (ia_NotWhole : PySem.W.findIn K (.ref A_NotWhole) "__class__" = some (some (.builtin "object.__class__"))) (in_NotWhole : PySem.W.specialIn K (.builtin "object.__class__") "__get__" = some (some (.builtin "getset_descriptor.__get__"))) (it_NotWhole : PySem.W.takesIn K (.builtin "object.__class__") = some true) (im_NotWhole : PySem.W.mroIn K A_NotWhole (.type "object") = some true) (v_NotWhole : PySem.W.subIn K (.ref A_NotWhole) (.type "ValueError") = some true)
    (u_ByNought_PolyError : PySem.W.subIn K (.ref A_ByNought) (.ref A_PolyError) = some true)
    (u_NotWhole_PolyError : PySem.W.subIn K (.ref A_NotWhole) (.ref A_PolyError) = some true)
    (u_ByNought_ByNought : PySem.W.subIn K (.ref A_ByNought) (.ref A_ByNought) = some true)
    (u_NotWhole_ByNought : PySem.W.subIn K (.ref A_NotWhole) (.ref A_ByNought) = some false)
    (u_NotWhole_NotWhole : PySem.W.subIn K (.ref A_NotWhole) (.ref A_NotWhole) = some true)
    (z_ValueError : PySem.W.nsIn K mainGlobals "ValueError" = some none)
    (z_abs : PySem.W.nsIn K mainGlobals "abs" = some none)
    (z_bool : PySem.W.nsIn K mainGlobals "bool" = some none)
    (z_int : PySem.W.nsIn K mainGlobals "int" = some none)
    (z_isinstance : PySem.W.nsIn K mainGlobals "isinstance" = some none)
    (z_len : PySem.W.nsIn K mainGlobals "len" = some none)
    (z_list : PySem.W.nsIn K mainGlobals "list" = some none)
    (z_max : PySem.W.nsIn K mainGlobals "max" = some none)
    (z_min : PySem.W.nsIn K mainGlobals "min" = some none)
    (z_range : PySem.W.nsIn K mainGlobals "range" = some none)
    :
    ∃ fd : FuncData, (∀ (s : Shared) (v : Value), BindsTo s fd ⟨[v], []⟩ [("_law_script", v)]) ∧ ∀ base : Heap, K.In base → base.Ns mainGlobals mg →  FnOk l.prog w K mg base CX0 5 fa fd ["_law_script"] (sp_law K) := by
  have e := hfa.symm.trans (PySem.W.mg_of X G a_law)
  cases e
  have F_greatest := fun_mk (st := s_greatest) l_greatest c_greatest k_greatest
  have b_greatest := F_greatest.binds (ps := ["one", "other"]) fun _ _ _ _ _ _ us hl => match us, hl with | [_, _], _ => rfl
  have F_trimmed := fun_mk (st := s_trimmed) l_trimmed c_trimmed k_trimmed
  have b_trimmed := F_trimmed.binds (ps := ["row"]) fun _ _ _ _ _ _ us hl => match us, hl with | [_], _ => rfl
  have F_divided := fun_mk (st := s_divided) l_divided c_divided k_divided
  have b_divided := F_divided.binds (ps := ["row", "by"]) fun _ _ _ _ _ _ us hl => match us, hl with | [_, _], _ => rfl
  have F_quotient := fun_mk (st := s_quotient) l_quotient c_quotient k_quotient
  have b_quotient := F_quotient.binds (ps := ["row", "by"]) fun _ _ _ _ _ _ us hl => match us, hl with | [_, _], _ => rfl
  have F__law_whole := fun_mk (st := s__law_whole) l__law_whole c__law_whole k__law_whole
  have b__law_whole := F__law_whole.binds (ps := ["_law_found"]) fun _ _ _ _ _ _ us hl => match us, hl with | [_], _ => rfl
  have F__law_cell_at := fun_mk (st := s__law_cell_at) l__law_cell_at c__law_cell_at k__law_cell_at
  have b__law_cell_at := F__law_cell_at.binds (ps := ["_law_script", "_law_k"]) fun _ _ _ _ _ _ us hl => match us, hl with | [_, _], _ => rfl
  have F__law_trim := fun_mk (st := s__law_trim) l__law_trim c__law_trim k__law_trim
  have b__law_trim := F__law_trim.binds (ps := ["_law_row"]) fun _ _ _ _ _ _ us hl => match us, hl with | [_], _ => rfl
  have F__law_same := fun_mk (st := s__law_same) l__law_same c__law_same k__law_same
  have b__law_same := F__law_same.binds (ps := ["_law_found", "_law_due"]) fun _ _ _ _ _ _ us hl => match us, hl with | [_, _], _ => rfl
  have F__law_number := fun_mk (st := s__law_number) l__law_number c__law_number k__law_number
  have b__law_number := F__law_number.binds (ps := ["_law_cell"]) fun _ _ _ _ _ _ us hl => match us, hl with | [_], _ => rfl
  have F__law_drawn := fun_mk (st := s__law_drawn) l__law_drawn c__law_drawn k__law_drawn
  have b__law_drawn := F__law_drawn.binds (ps := ["_law_script", "_law_place", "_law_size", "_law_many"]) fun _ _ _ _ _ _ us hl => match us, hl with | [_, _, _, _], _ => rfl
  have F__law_times := fun_mk (st := s__law_times) l__law_times c__law_times k__law_times
  have b__law_times := F__law_times.binds (ps := ["_law_ones", "_law_others"]) fun _ _ _ _ _ _ us hl => match us, hl with | [_, _], _ => rfl
  have F__law_quotient := fun_mk (st := s__law_quotient) l__law_quotient c__law_quotient k__law_quotient
  have b__law_quotient := F__law_quotient.binds (ps := ["_law_row", "_law_by"]) fun _ _ _ _ _ _ us hl => match us, hl with | [_, _], _ => rfl
  have F__law_told := fun_mk (st := s__law_told) l__law_told c__law_told k__law_told
  have b__law_told := F__law_told.binds (ps := ["_law_row", "_law_by"]) fun _ _ _ _ _ _ us hl => match us, hl with | [_, _], _ => rfl
  have F__law_refused := fun_mk (st := s__law_refused) l__law_refused c__law_refused k__law_refused
  have b__law_refused := F__law_refused.binds (ps := ["_law_row", "_law_by"]) fun _ _ _ _ _ _ us hl => match us, hl with | [_, _], _ => rfl
  have F_law := fun_mk (st := s_law) l_law c_law k_law
  have b_law := F_law.binds (ps := ["_law_script"]) fun _ _ _ _ _ _ us hl => match us, hl with | [_], _ => rfl
  let T : Txt K mg := {
    a_greatest := _, d_greatest := _, F_greatest := F_greatest, m_greatest := PySem.W.mg_of X G a_greatest, b_greatest := b_greatest,
    a_trimmed := _, d_trimmed := _, F_trimmed := F_trimmed, m_trimmed := PySem.W.mg_of X G a_trimmed, b_trimmed := b_trimmed,
    a_divided := _, d_divided := _, F_divided := F_divided, m_divided := PySem.W.mg_of X G a_divided, b_divided := b_divided,
    a_quotient := _, d_quotient := _, F_quotient := F_quotient, m_quotient := PySem.W.mg_of X G a_quotient, b_quotient := b_quotient,
    a__law_whole := _, d__law_whole := _, F__law_whole := F__law_whole, m__law_whole := PySem.W.mg_of X G a__law_whole, b__law_whole := b__law_whole,
    a__law_cell_at := _, d__law_cell_at := _, F__law_cell_at := F__law_cell_at, m__law_cell_at := PySem.W.mg_of X G a__law_cell_at, b__law_cell_at := b__law_cell_at,
    a__law_trim := _, d__law_trim := _, F__law_trim := F__law_trim, m__law_trim := PySem.W.mg_of X G a__law_trim, b__law_trim := b__law_trim,
    a__law_same := _, d__law_same := _, F__law_same := F__law_same, m__law_same := PySem.W.mg_of X G a__law_same, b__law_same := b__law_same,
    a__law_number := _, d__law_number := _, F__law_number := F__law_number, m__law_number := PySem.W.mg_of X G a__law_number, b__law_number := b__law_number,
    a__law_drawn := _, d__law_drawn := _, F__law_drawn := F__law_drawn, m__law_drawn := PySem.W.mg_of X G a__law_drawn, b__law_drawn := b__law_drawn,
    a__law_times := _, d__law_times := _, F__law_times := F__law_times, m__law_times := PySem.W.mg_of X G a__law_times, b__law_times := b__law_times,
    a__law_quotient := _, d__law_quotient := _, F__law_quotient := F__law_quotient, m__law_quotient := PySem.W.mg_of X G a__law_quotient, b__law_quotient := b__law_quotient,
    a__law_told := _, d__law_told := _, F__law_told := F__law_told, m__law_told := PySem.W.mg_of X G a__law_told, b__law_told := b__law_told,
    a__law_refused := _, d__law_refused := _, F__law_refused := F__law_refused, m__law_refused := PySem.W.mg_of X G a__law_refused, b__law_refused := b__law_refused,
    a_law := _, d_law := _, F_law := F_law, m_law := PySem.W.mg_of X G a_law, b_law := b_law,
    A_PolyError := A_PolyError, e_PolyError := ⟨PySem.W.mg_of X G g_PolyError, x_PolyError, k_PolyError, b_PolyError, t_PolyError, h_PolyError, ⟨ig_PolyError, ik_PolyError, b_PolyError, h_PolyError, ia_PolyError, in_PolyError, it_PolyError, im_PolyError⟩, kit_ve v_PolyError⟩,
    A_ByNought := A_ByNought, e_ByNought := ⟨PySem.W.mg_of X G g_ByNought, x_ByNought, k_ByNought, b_ByNought, t_ByNought, h_ByNought, ⟨ig_ByNought, ik_ByNought, b_ByNought, h_ByNought, ia_ByNought, in_ByNought, it_ByNought, im_ByNought⟩, kit_ve v_ByNought⟩,
    A_NotWhole := A_NotWhole, e_NotWhole := ⟨PySem.W.mg_of X G g_NotWhole, x_NotWhole, k_NotWhole, b_NotWhole, t_NotWhole, h_NotWhole, ⟨ig_NotWhole, ik_NotWhole, b_NotWhole, h_NotWhole, ia_NotWhole, in_NotWhole, it_NotWhole, im_NotWhole⟩, kit_ve v_NotWhole⟩,
    u_ByNought_PolyError := PySem.W.exm_ref b_PolyError h_PolyError t_PolyError u_ByNought_PolyError,
    u_NotWhole_PolyError := PySem.W.exm_ref b_PolyError h_PolyError t_PolyError u_NotWhole_PolyError,
    u_ByNought_ByNought := PySem.W.exm_ref b_ByNought h_ByNought t_ByNought u_ByNought_ByNought,
    u_NotWhole_ByNought := PySem.W.exm_ref b_ByNought h_ByNought t_ByNought u_NotWhole_ByNought,
    u_NotWhole_NotWhole := PySem.W.exm_ref b_NotWhole h_NotWhole t_NotWhole u_NotWhole_NotWhole,
    z_ValueError := PySem.W.mg_none_of X G z_ValueError, z_abs := PySem.W.mg_none_of X G z_abs, z_bool := PySem.W.mg_none_of X G z_bool, z_int := PySem.W.mg_none_of X G z_int, z_isinstance := PySem.W.mg_none_of X G z_isinstance, z_len := PySem.W.mg_none_of X G z_len, z_list := PySem.W.mg_none_of X G z_list, z_max := PySem.W.mg_none_of X G z_max, z_min := PySem.W.mg_none_of X G z_min, z_range := PySem.W.mg_none_of X G z_range }
  exact ⟨_, fun s v => .of_eq rfl, fun base _ _ => ok_law T⟩
end Pa
open PySem PySem.W PyProof.Rows
set_option maxHeartbeats 0 in
theorem PySem.Challenge.cw_polyarith_k08_quotient_holds : PySem.Challenge.rw_polyarith_k08_quotient.Holds := by
  w_on; o_law; k_head; (case hw => w_witness2)
  k_fill
  refine L2.walk_of (l := PySem.Challenge.rw_polyarith_k08_quotient) (n := 63) (k := 5) (x := "_law_script") (CX := fun _ => L2.CX0) (sp := fun w => Pa.sp_law _) rfl (by decide) rfl ⟨rfl, by decide, by decide⟩ (fun w h Y => PySem.W.kIn_of Y) ?F (fun _ _ a ns hl _ hS => ⟨a, ns, rfl, hS, hl, fun _ => rfl⟩) (fun _ _ _ _ _ h => h)
  case F =>
    intro w mg fa h KX G hmg
    refine' Pa.all_mk KX G hmg ?a_greatest ?l_greatest ?c_greatest ?k_greatest ?a_trimmed ?l_trimmed ?c_trimmed ?k_trimmed ?a_divided ?l_divided ?c_divided ?k_divided ?a_quotient ?l_quotient ?c_quotient ?k_quotient ?a__law_whole ?l__law_whole ?c__law_whole ?k__law_whole ?a__law_cell_at ?l__law_cell_at ?c__law_cell_at ?k__law_cell_at ?a__law_trim ?l__law_trim ?c__law_trim ?k__law_trim ?a__law_same ?l__law_same ?c__law_same ?k__law_same ?a__law_number ?l__law_number ?c__law_number ?k__law_number ?a__law_drawn ?l__law_drawn ?c__law_drawn ?k__law_drawn ?a__law_times ?l__law_times ?c__law_times ?k__law_times ?a__law_quotient ?l__law_quotient ?c__law_quotient ?k__law_quotient ?a__law_told ?l__law_told ?c__law_told ?k__law_told ?a__law_refused ?l__law_refused ?c__law_refused ?k__law_refused ?a_law ?l_law ?c_law ?k_law ?g_PolyError ?x_PolyError ?k_PolyError ?b_PolyError ?t_PolyError ?h_PolyError ?ig_PolyError ?ik_PolyError ?ia_PolyError ?in_PolyError ?it_PolyError ?im_PolyError ?v_PolyError ?g_ByNought ?x_ByNought ?k_ByNought ?b_ByNought ?t_ByNought ?h_ByNought ?ig_ByNought ?ik_ByNought ?ia_ByNought ?in_ByNought ?it_ByNought ?im_ByNought ?v_ByNought ?g_NotWhole ?x_NotWhole ?k_NotWhole ?b_NotWhole ?t_NotWhole ?h_NotWhole ?ig_NotWhole ?ik_NotWhole ?ia_NotWhole ?in_NotWhole ?it_NotWhole ?im_NotWhole ?v_NotWhole ?u_ByNought_PolyError ?u_NotWhole_PolyError ?u_ByNought_ByNought ?u_NotWhole_ByNought ?u_NotWhole_NotWhole ?z_ValueError ?z_abs ?z_bool ?z_int ?z_isinstance ?z_len ?z_list ?z_max ?z_min ?z_range
    (case a_greatest => k_is)
    (case l_greatest => k_is)
    (case c_greatest => k_is)
    (case k_greatest => k_is)
    (case a_trimmed => k_is)
    (case l_trimmed => k_is)
    (case c_trimmed => k_is)
    (case k_trimmed => k_is)
    (case a_divided => k_is)
    (case l_divided => k_is)
    (case c_divided => k_is)
    (case k_divided => k_is)
    (case a_quotient => k_is)
    (case l_quotient => k_is)
    (case c_quotient => k_is)
    (case k_quotient => k_is)
    (case a__law_whole => k_is)
    (case l__law_whole => k_is)
    (case c__law_whole => k_is)
    (case k__law_whole => k_is)
    (case a__law_cell_at => k_is)
    (case l__law_cell_at => k_is)
    (case c__law_cell_at => k_is)
    (case k__law_cell_at => k_is)
    (case a__law_trim => k_is)
    (case l__law_trim => k_is)
    (case c__law_trim => k_is)
    (case k__law_trim => k_is)
    (case a__law_same => k_is)
    (case l__law_same => k_is)
    (case c__law_same => k_is)
    (case k__law_same => k_is)
    (case a__law_number => k_is)
    (case l__law_number => k_is)
    (case c__law_number => k_is)
    (case k__law_number => k_is)
    (case a__law_drawn => k_is)
    (case l__law_drawn => k_is)
    (case c__law_drawn => k_is)
    (case k__law_drawn => k_is)
    (case a__law_times => k_is)
    (case l__law_times => k_is)
    (case c__law_times => k_is)
    (case k__law_times => k_is)
    (case a__law_quotient => k_is)
    (case l__law_quotient => k_is)
    (case c__law_quotient => k_is)
    (case k__law_quotient => k_is)
    (case a__law_told => k_is)
    (case l__law_told => k_is)
    (case c__law_told => k_is)
    (case k__law_told => k_is)
    (case a__law_refused => k_is)
    (case l__law_refused => k_is)
    (case c__law_refused => k_is)
    (case k__law_refused => k_is)
    (case a_law => k_is)
    (case l_law => k_is)
    (case c_law => k_is)
    (case k_law => k_is)
    (case g_PolyError => k_is)
    (case x_PolyError => k_exc)
    (case k_PolyError => k_is)
    (case b_PolyError => k_is)
    (case t_PolyError => k_is)
    (case h_PolyError => k_is)
    (case ig_PolyError => k_is)
    (case ik_PolyError => k_is)
    (case ia_PolyError => k_is)
    (case in_PolyError => k_is)
    (case it_PolyError => k_is)
    (case im_PolyError => k_is)
    (case v_PolyError => k_is)
    (case g_ByNought => k_is)
    (case x_ByNought => k_exc)
    (case k_ByNought => k_is)
    (case b_ByNought => k_is)
    (case t_ByNought => k_is)
    (case h_ByNought => k_is)
    (case ig_ByNought => k_is)
    (case ik_ByNought => k_is)
    (case ia_ByNought => k_is)
    (case in_ByNought => k_is)
    (case it_ByNought => k_is)
    (case im_ByNought => k_is)
    (case v_ByNought => k_is)
    (case g_NotWhole => k_is)
    (case x_NotWhole => k_exc)
    (case k_NotWhole => k_is)
    (case b_NotWhole => k_is)
    (case t_NotWhole => k_is)
    (case h_NotWhole => k_is)
    (case ig_NotWhole => k_is)
    (case ik_NotWhole => k_is)
    (case ia_NotWhole => k_is)
    (case in_NotWhole => k_is)
    (case it_NotWhole => k_is)
    (case im_NotWhole => k_is)
    (case v_NotWhole => k_is)
    (case u_ByNought_PolyError => first | rfl | k_is)
    (case u_NotWhole_PolyError => first | rfl | k_is)
    (case u_ByNought_ByNought => first | rfl | k_is)
    (case u_NotWhole_ByNought => first | rfl | k_is)
    (case u_NotWhole_NotWhole => first | rfl | k_is)
    (case z_ValueError => k_is)
    (case z_abs => k_is)
    (case z_bool => k_is)
    (case z_int => k_is)
    (case z_isinstance => k_is)
    (case z_len => k_is)
    (case z_list => k_is)
    (case z_max => k_is)
    (case z_min => k_is)
    (case z_range => k_is)
