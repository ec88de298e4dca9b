import PyProof.Rows.All
import Wide.All
import OpenK.AllK
import Wide.FinOn
import HandS.ForMost
import HandS.Exc
import HandS.TryOnly
import HandS.ExcOwn
import HandS.WordsExc
import HandS.TryMany
import HandS.Wide
import HandS.Rev
import HandS.IsInst
import HandS.ExcIs
import HandS.Deep
import HandS.Codes
import HandS.Replace
import HandS.Walk
import HandS.Iter
import HandS.Steps
import PySem.Challenge.RW_polyarith_k10_written
set_option Elab.async false
set_option linter.all false
set_option maxRecDepth 100000
set_option maxHeartbeats 4000000
set_option exponentiation.threshold 10000
namespace Pa
open PySem PySem.Spec PyProof.Rows L2
abbrev St := L2.St

/-! ### owned objects over a heap -/
abbrev Fs := List (Addr × HO)
def Kn (H0 : Hp) : Fs → Hp → Prop
  | [], H => Same H0 H
  | x :: fs, H => H x.1 = some x.2 ∧ ∃ H1, Same H1 H ∧ H1 x.1 = none ∧ Kn H0 fs H1
theorem Kn.same {H0 : Hp} : ∀ {fs : Fs} {H : Hp}, Kn H0 fs H → Same H0 H
  | [], _, h => h
  | _ :: _, _, ⟨_, _, s, _, k⟩ => (Kn.same k).trans s
theorem Kn.ext {H0 : Hp} : ∀ {fs : Fs} {H H' : Hp}, Kn H0 fs H → Same H H' → Kn H0 fs H'
  | [], _, _, h, s => Same.trans h s
  | _ :: _, _, _, ⟨e, H1, s1, n, k⟩, s => ⟨s _ _ e, H1, s1.trans s, n, k⟩
theorem same_upd {H : Hp} {p : Addr} {o : HO} (h : H p = none) : Same H (upd H p o) := fun b x e => by
  rw [upd_ne (ne_of_none e h)]
  exact e
theorem Kn.new {H0 H : Hp} {fs : Fs} {p : Addr} {o : HO} (k : Kn H0 fs H) (h : H p = none) : Kn H0 ((p, o) :: fs) (upd H p o) :=
  ⟨upd_same, H, same_upd h, h, k⟩
theorem Kn.get {H0 : Hp} : ∀ {fs : Fs} {H : Hp} {p : Addr} {o : HO}, Kn H0 fs H → (p, o) ∈ fs → H p = some o
  | _ :: _, _, _, _, ⟨e, _⟩, .head _ => e
  | _ :: _, _, _, _, ⟨_, _, s, _, k⟩, .tail _ m => s _ _ (Kn.get k m)
theorem Kn.fresh {H0 H : Hp} {fs : Fs} {p : Addr} (k : Kn H0 fs H) (h : H p = none) : H0 p = none := k.same.free h
theorem Kn.out {H0 : Hp} : ∀ {fs : Fs} {H : Hp} {p : Addr} {o : HO}, Kn H0 fs H → (p, o) ∈ fs → H0 p = none
  | _ :: _, _, _, _, ⟨_, _, _, n, k⟩, .head _ => k.same.free n
  | _ :: _, _, _, _, ⟨_, _, _, _, k⟩, .tail _ m => Kn.out k m
theorem Kn.put {H0 : Hp} : ∀ {fs : Fs} {H : Hp} {i : Nat} {p : Addr} {o o' : HO}, Kn H0 fs H → fs[i]? = some (p, o) → Kn H0 (fs.set i (p, o')) (upd H p o')
  | [], _, _, _, _, _, _, h => by simp at h
  | x :: fs, H, 0, p, o, o', ⟨e, H1, s, n, k⟩, h => by
    have ex : x = (p, o) := Option.some.inj h
    subst ex
    exact ⟨upd_same, H1, fun b u q => by rw [upd_ne (ne_of_none q n)]; exact s _ _ q, n, k⟩
  | x :: fs, H, i + 1, p, o, o', ⟨e, H1, s, n, k⟩, h => by
    have h' : fs[i]? = some (p, o) := by simpa using h
    have hp : H1 p = some o := k.get (List.mem_of_getElem? h')
    have ne : x.1 ≠ p := fun z => by rw [z, hp] at n; cases n
    refine ⟨by rw [upd_ne ne]; exact e, upd H1 p o', fun b u q => ?_, by rw [upd_ne ne]; exact n, Kn.put k h'⟩
    by_cases hb : b = p
    · subst hb; rw [upd_same] at q ⊢; exact q
    · rw [upd_ne hb] at q ⊢; exact s _ _ q
theorem Kn.app {H0 H : Hp} {fs : Fs} (k : Kn H0 fs H) : ∀ {fs' : Fs} {H' : Hp}, Kn H fs' H' → Kn H0 (fs' ++ fs) H'
  | [], _, k' => k.ext k'
  | _ :: _, _, ⟨e, H1, s, n, k'⟩ => ⟨e, H1, s, n, Kn.app k k'⟩
theorem Kn.drop {H0 H : Hp} {x : Addr × HO} {fs : Fs} (k : Kn H0 (x :: fs) H) : Kn H0 fs H := by
  obtain ⟨_, H1, s, _, k⟩ := k
  exact k.ext s
theorem Kn.sub {H0 : Hp} : ∀ {fs fs' : Fs} {H : Hp}, List.Sublist fs' fs → Kn H0 fs H → Kn H0 fs' H
  | _, _, _, .slnil, k => k
  | _, _, _, .cons _ s, k => Kn.sub s k.drop
  | _, _, _, .cons_cons _ s, ⟨e, H1, t, n, k⟩ => ⟨e, H1, t, n, Kn.sub s k⟩
/-- seen from a later heap -/
theorem Kn.ne {H0 : Hp} {x : Addr × HO} {fs : Fs} {H : Hp} {p : Addr} {o : HO} (k : Kn H0 (x :: fs) H) (m : (p, o) ∈ fs) : x.1 ≠ p := by
  obtain ⟨_, H1, _, n, k⟩ := k
  intro e
  rw [e, k.get m] at n
  cases n
theorem Kn.swap {H0 : Hp} {x y : Addr × HO} {fs : Fs} {H : Hp} (k : Kn H0 (x :: y :: fs) H) : Kn H0 (y :: x :: fs) H := by
  obtain ⟨ex, H1, s1, n1, ey, H2, s2, n2, k⟩ := k
  have ne : x.1 ≠ y.1 := fun z => by rw [z, ey] at n1; cases n1
  have hx2 : H2 x.1 = none := s2.free n1
  refine ⟨s1 _ _ ey, upd H2 x.1 x.2, fun b u q => ?_, ?_, upd_same, H2, same_upd hx2, hx2, k⟩
  · by_cases hb : b = x.1
    · subst hb; rw [upd_same] at q; cases q; exact ex
    · rw [upd_ne hb] at q; exact s1 _ _ (s2 _ _ q)
  · rw [upd_ne (Ne.symm ne)]; exact n2

/-! ### what may be read -/
def Rl (K : PySem.W.Frag) (H0 : Hp) (fs : Fs) (a : Addr) (xs : List V) : Prop := ∀ H, Kn H0 fs H → SqL K H a xs
def Rt (K : PySem.W.Frag) (H0 : Hp) (fs : Fs) (a : Addr) (xs : List V) : Prop := ∀ H, Kn H0 fs H → SqT K H a xs
/-- an exact object -/
def Rx (H0 : Hp) (fs : Fs) (a : Addr) (o : HO) : Prop := ∀ H, Kn H0 fs H → H a = some o
section
variable {K : PySem.W.Frag} {H0 : Hp} {fs fs' : Fs} {a : Addr} {xs : List V} {o : HO}
theorem Rx.own (m : (a, o) ∈ fs) : Rx H0 fs a o := fun _ k => k.get m
theorem Rx.arg (h : H0 a = some o) : Rx H0 fs a o := fun _ k => k.same _ _ h
theorem Rl.x (h : Rx H0 fs a (.lst xs)) : Rl K H0 fs a xs := fun H k => SqL.of (h H k)
theorem Rl.sq (h : SqL K H0 a xs) : Rl K H0 fs a xs := fun _ k => k.same.seq h
theorem Rt.x (h : Rx H0 fs a (.tup xs)) : Rt K H0 fs a xs := fun H k => SqT.of (h H k)
end

/-! ### zV -/
def zV (ns : List Int) : List V := ns.map V.int
theorem zV_length (ns : List Int) : (zV ns).length = ns.length := List.length_map _
theorem zV_get {ns : List Int} {i : Nat} {x : Int} (h : ns[i]? = some x) : (zV ns)[i]? = some (.int x) := by
  unfold zV
  rw [List.getElem?_map, h]; rfl
/-- the number at a place -/
def gat (ns : List Int) (i : Int) : Int := ns.getD i.toNat 0
theorem gat_nat (ns : List Int) (i : Nat) : gat ns (i : Int) = ns.getD i 0 := by unfold gat; simp
theorem atI_zV {ns : List Int} {i : Int} (h0 : 0 ≤ i) (h1 : i < (ns.length : Int)) : atI (zV ns) i = some (.int (gat ns i)) := by
  obtain ⟨k, rfl⟩ := Int.eq_ofNat_of_zero_le h0
  have hk : k < ns.length := by omega
  refine atI_nat (zV_get ?_)
  rw [gat_nat, List.getD_eq_getElem?_getD, List.getElem?_eq_getElem hk]; rfl
theorem ixN_nat {n j : Nat} (hj : j < n) : ixN n (j : Int) = some j := by
  unfold ixN
  rw [if_pos (by omega), if_pos (by omega)]
  simp
theorem ixN_int {n : Nat} {i : Int} (h0 : 0 ≤ i) (h1 : i < (n : Int)) : ixN n i = some i.toNat := by
  unfold ixN
  rw [if_pos h0, if_pos h1]
theorem zV_set (ns : List Int) (i : Nat) (x : Int) : (zV ns).set i (.int x) = zV (ns.set i x) := by
  unfold zV; rw [List.map_set]
theorem zV_app (ns ms : List Int) : zV ns ++ zV ms = zV (ns ++ ms) := by
  unfold zV; rw [List.map_append]
theorem atI_lastI {ns : List Int} (h : ns ≠ []) : atI (zV ns) (-1) = some (.int (ns.getLast h)) := by
  have e : zV ns = zV ns.dropLast ++ [.int (ns.getLast h)] := by
    have := zV_app ns.dropLast [ns.getLast h]
    rw [List.dropLast_concat_getLast] at this
    exact this.symm
  rw [e]; exact atI_last _ _
theorem sz_le {n : Nat} (h : n ≤ 1000000) : n ≤ sizeLine := Nat.le_trans h (by decide)
theorem sz_lt {n : Nat} (h : n < 1000000) : n < sizeLine := Nat.lt_of_lt_of_le h (by decide)
end Pa

namespace Pa
open PySem PySem.Spec PyProof.Rows L2

/-! ### readings over owned objects -/
abbrev CV := V → Fs → Prop
def W (te : TE) (σ : St) (H0 : Hp) (fs : Fs) (Φ : CV) : Prop := ∀ H, Kn H0 fs H → ∀ Q : VK, (∀ v fs' H', Kn H0 fs' H' → Φ v fs' → Q v H') → te σ H Q
def WT (tt : TT) (σ : St) (H0 : Hp) (fs : Fs) (Φ : Bool → Fs → Prop) : Prop := ∀ H, Kn H0 fs H → ∀ Q : Bool → Hp → Prop, (∀ v fs' H', Kn H0 fs' H' → Φ v fs' → Q v H') → tt σ H Q
def WA (ta : TA) (σ : St) (H0 : Hp) (fs : Fs) (Φ : List V → Fs → Prop) : Prop := ∀ H, Kn H0 fs H → ∀ Q : List V → Hp → Prop, (∀ v fs' H', Kn H0 fs' H' → Φ v fs' → Q v H') → ta σ H Q
def WO (tn : TO) (σ : St) (H0 : Hp) (fs : Fs) (Φ : Option Int → Fs → Prop) : Prop := ∀ H, Kn H0 fs H → ∀ Q : Option Int → Hp → Prop, (∀ v fs' H', Kn H0 fs' H' → Φ v fs' → Q v H') → tn σ H Q
/-- an operation on two values, a call on values -/
def RW (r : R2) (x y : V) (H0 : Hp) (fs : Fs) (Φ : CV) : Prop := ∀ H, Kn H0 fs H → ∀ Q : VK, (∀ v fs' H', Kn H0 fs' H' → Φ v fs' → Q v H') → r x y H Q
def RU (r : V → Hp → VK → Prop) (x : V) (H0 : Hp) (fs : Fs) (Φ : CV) : Prop := ∀ H, Kn H0 fs H → ∀ Q : VK, (∀ v fs' H', Kn H0 fs' H' → Φ v fs' → Q v H') → r x H Q
def RC (r : List V → Hp → VK → Prop) (vs : List V) (H0 : Hp) (fs : Fs) (Φ : CV) : Prop := ∀ H, Kn H0 fs H → ∀ Q : VK, (∀ v fs' H', Kn H0 fs' H' → Φ v fs' → Q v H') → r vs H Q
def RM (r : V → List V → Hp → VK → Prop) (x : V) (vs : List V) (H0 : Hp) (fs : Fs) (Φ : CV) : Prop := ∀ H, Kn H0 fs H → ∀ Q : VK, (∀ v fs' H', Kn H0 fs' H' → Φ v fs' → Q v H') → r x vs H Q
def RS (r : V → Option Int → Option Int → Hp → VK → Prop) (x : V) (lo hi : Option Int) (H0 : Hp) (fs : Fs) (Φ : CV) : Prop := ∀ H, Kn H0 fs H → ∀ Q : VK, (∀ v fs' H', Kn H0 fs' H' → Φ v fs' → Q v H') → r x lo hi H Q
/-- a call's promise -/
def WC (sp : Sp) (vs : List V) (H0 : Hp) (fs : Fs) (Φ : CV) : Prop := ∀ H, Kn H0 fs H → ∀ (Q : VK) (E : XK), (∀ v fs' H', Kn H0 fs' H' → Φ v fs' → Q v H') → sp vs H Q E
/-- statements: what must hold behind -/
def N (e : St → Hp → Prop) (σ : St) (H0 : Hp) (fs : Fs) : Prop := ∀ H, Kn H0 fs H → e σ H
/-- a value handed back -/
def NR (Q : VK) (v : V) (H0 : Hp) (fs : Fs) : Prop := ∀ H, Kn H0 fs H → Q v H

section
variable {σ : St} {H0 : Hp} {fs : Fs} {Φ : CV} {ta tb tc te : TE} {t u : TT} {i : Nat} {v x y : V} {r r' : R2} {K : PySem.W.Frag} {tr : TA} {ΦT : Bool → Fs → Prop} {ΦA : List V → Fs → Prop}

theorem W.var (h : σ[i]? = some (some v)) (q : Φ v fs) : W (tVar i) σ H0 fs Φ := fun H k _ c => ⟨v, h, c v fs H k q⟩
theorem W.c (q : Φ v fs) : W (tC v) σ H0 fs Φ := fun H k _ c => c v fs H k q
theorem W.op (h : W ta σ H0 fs fun x f1 => W tb σ H0 f1 fun y f2 => RW r x y H0 f2 Φ) : W (tOp r ta tb) σ H0 fs Φ := fun H k Q c =>
  h H k _ fun _ _ H1 k1 h1 => h1 H1 k1 _ fun _ _ H2 k2 h2 => h2 H2 k2 Q c
theorem W.un {r : V → Hp → VK → Prop} (h : W ta σ H0 fs fun x f1 => RU r x H0 f1 Φ) : W (tUn r ta) σ H0 fs Φ := fun H k Q c =>
  h H k _ fun _ _ H1 k1 h1 => h1 H1 k1 Q c
theorem RW.i0 {g : Int → Int → V} {i j : Int} (q : Φ (g i j) fs) : RW (rI0 g) (.int i) (.int j) H0 fs Φ := fun H k _ c => ⟨i, j, rfl, rfl, c _ fs H k q⟩
theorem RW.i1 {C : Int → Int → Prop} {g : Int → Int → V} {i j : Int} (hc : C i j) (q : Φ (g i j) fs) : RW (rI C g) (.int i) (.int j) H0 fs Φ := fun H k _ c => ⟨i, j, rfl, rfl, hc, c _ fs H k q⟩
theorem RU.int {g : Int → V} {i : Int} (q : Φ (g i) fs) : RU (rU g) (.int i) H0 fs Φ := fun H k _ c => ⟨i, rfl, c _ fs H k q⟩
theorem RW.eqI {i j : Int} (q : Φ (.bl (decide (i = j))) fs) : RW rEq (.int i) (.int j) H0 fs Φ := fun H k Q c => ⟨rfl, by
  have e : decide (V.int i = V.int j) = decide (i = j) := by rw [dec_int, Bool.beq_eq_decide_eq]
  rw [e]; exact c _ fs H k q⟩
theorem RW.neI {i j : Int} (q : Φ (.bl (!decide (i = j))) fs) : RW rNe (.int i) (.int j) H0 fs Φ := fun H k Q c => ⟨rfl, by
  have e : decide (V.int i = V.int j) = decide (i = j) := by rw [dec_int, Bool.beq_eq_decide_eq]
  rw [e]; exact c _ fs H k q⟩
theorem RW.eqS {i j : Str} (q : Φ (.bl (decide (i = j))) fs) : RW rEq (.str i) (.str j) H0 fs Φ := fun H k Q c => ⟨rfl, by
  have e : decide (V.str i = V.str j) = decide (i = j) := by rw [dec_str, Bool.beq_eq_decide_eq]
  rw [e]; exact c _ fs H k q⟩
theorem RW.neS {i j : Str} (q : Φ (.bl (!decide (i = j))) fs) : RW rNe (.str i) (.str j) H0 fs Φ := fun H k Q c => ⟨rfl, by
  have e : decide (V.str i = V.str j) = decide (i = j) := by rw [dec_str, Bool.beq_eq_decide_eq]
  rw [e]; exact c _ fs H k q⟩

/-! ### arguments, displays -/
theorem WA.nil (q : ΦA [] fs) : WA tNil σ H0 fs ΦA := fun H k _ c => c [] fs H k q
theorem WA.cons (h : W ta σ H0 fs fun x f1 => WA tr σ H0 f1 fun xs f2 => ΦA (x :: xs) f2) : WA (tCons ta tr) σ H0 fs ΦA := fun H k Q c =>
  h H k _ fun _ _ H1 k1 h1 => h1 H1 k1 _ fun _ _ H2 k2 h2 => c _ _ H2 k2 h2
theorem W.lst (h : WA tr σ H0 fs fun vs f1 => vs.length ≤ 1000000 ∧ ∀ p, Φ (.ref p) ((p, .lst vs) :: f1)) : W (tLst tr) σ H0 fs Φ := fun H k Q c =>
  h H k _ fun _ _ H1 k1 h1 => ⟨sz_le h1.1, fun p hp => c _ _ _ (k1.new hp) (h1.2 p)⟩
theorem W.tup (h : WA tr σ H0 fs fun vs f1 => vs.length ≤ 1000000 ∧ ∀ p, Φ (.ref p) ((p, .tup vs) :: f1)) : W (tTup tr) σ H0 fs Φ := fun H k Q c =>
  h H k _ fun _ _ H1 k1 h1 => ⟨sz_le h1.1, fun p hp => c _ _ _ (k1.new hp) (h1.2 p)⟩
theorem W.cb {r : List V → Hp → VK → Prop} (h : WA tr σ H0 fs fun vs f1 => RC r vs H0 f1 Φ) : W (tCB r tr) σ H0 fs Φ := fun H k Q c =>
  h H k _ fun _ _ H1 k1 h1 => h1 H1 k1 Q c
theorem W.call {sp : Sp} {E : XK} (h : WA tr σ H0 fs fun vs f1 => WC sp vs H0 f1 Φ) : W (tCall sp [] E tr) σ H0 fs Φ := fun H k Q c =>
  h H k _ fun vs _ H1 k1 h1 => by rw [List.append_nil]; exact h1 H1 k1 Q E c

/-! ### built-ins -/
def rLen (K : PySem.W.Frag) : List V → Hp → VK → Prop := fun xs H Q => ∃ p ys, xs = [.ref p] ∧ (SqL K H p ys ∨ SqT K H p ys) ∧ Q (.int ys.length) H
def rLenS : List V → Hp → VK → Prop := fun xs H Q => ∃ z, xs = [.str z] ∧ z.length ≤ sizeLine ∧ Q (.int z.length) H
def rAbs : List V → Hp → VK → Prop := fun xs H Q => ∃ i, xs = [.int i] ∧ Q (.int (if i < 0 then -i else i)) H
def rMax2 : List V → Hp → VK → Prop := fun xs H Q => ∃ i j, xs = [.int i, .int j] ∧ Q (.int (if j > i then j else i)) H
def rMin2 : List V → Hp → VK → Prop := fun xs H Q => ∃ i j, xs = [.int i, .int j] ∧ Q (.int (if j < i then j else i)) H
def rListOf (K : PySem.W.Frag) : List V → Hp → VK → Prop := fun xs H Q => ∃ p ys, xs = [.ref p] ∧ (SqL K H p ys ∨ SqT K H p ys) ∧ ∀ l, H l = none → Q (.ref l) (upd H l (.lst ys))
def rTupOf (K : PySem.W.Frag) : List V → Hp → VK → Prop := fun xs H Q => ∃ p ys, xs = [.ref p] ∧ ((SqL K H p ys ∧ ∀ l, H l = none → Q (.ref l) (upd H l (.tup ys))) ∨ (SqT K H p ys ∧ Q (.ref p) H))
section
variable {X : Cx}
theorem cLen : CallR X (.builtin "len") (rLen X.K) := call_len_seq
theorem cLenS : CallR X (.builtin "len") rLenS := call_len_str
theorem cAbs : CallR X (.builtin "abs") rAbs := call_abs
theorem cMax2 (hc : X.calm = true) : CallR X (.builtin "max") rMax2 := call_max2 hc
theorem cMin2 (hc : X.calm = true) : CallR X (.builtin "min") rMin2 := call_min2 hc
theorem cListOf : CallR X (.type "list") (rListOf X.K) := call_list_of
theorem cTupOf : CallR X (.type "tuple") (rTupOf X.K) := call_tuple_of
end
theorem RC.len {p : Addr} {xs : List V} (h : Rl K H0 fs p xs) (q : Φ (.int xs.length) fs) : RC (rLen K) [.ref p] H0 fs Φ := fun H k _ c => ⟨p, xs, rfl, .inl (h H k), c _ fs H k q⟩
theorem RC.lenT {p : Addr} {xs : List V} (h : Rt K H0 fs p xs) (q : Φ (.int xs.length) fs) : RC (rLen K) [.ref p] H0 fs Φ := fun H k _ c => ⟨p, xs, rfl, .inr (h H k), c _ fs H k q⟩
theorem RC.lenZ {p : Addr} {ns : List Int} (h : Rl K H0 fs p (zV ns)) (q : Φ (.int ns.length) fs) : RC (rLen K) [.ref p] H0 fs Φ := RC.len h (by rw [zV_length]; exact q)
theorem RC.lenS {z : Str} (h : z.length ≤ 1000000) (q : Φ (.int z.length) fs) : RC rLenS [.str z] H0 fs Φ := fun H k _ c => ⟨z, rfl, sz_le h, c _ fs H k q⟩
theorem RC.abs {i : Int} (q : Φ (.int (i.natAbs : Int)) fs) : RC rAbs [.int i] H0 fs Φ := fun H k _ c => ⟨i, rfl, by
  have e : (if i < 0 then -i else i) = (i.natAbs : Int) := by split <;> omega
  rw [e]; exact c _ fs H k q⟩
theorem RC.max2 {i j : Int} (q : Φ (.int (max i j)) fs) : RC rMax2 [.int i, .int j] H0 fs Φ := fun H k _ c => ⟨i, j, rfl, by
  have e : (if j > i then j else i) = max i j := by split <;> omega
  rw [e]; exact c _ fs H k q⟩
theorem RC.min2 {i j : Int} (q : Φ (.int (min i j)) fs) : RC rMin2 [.int i, .int j] H0 fs Φ := fun H k _ c => ⟨i, j, rfl, by
  have e : (if j < i then j else i) = min i j := by split <;> omega
  rw [e]; exact c _ fs H k q⟩
theorem RC.listL {p : Addr} {xs : List V} (h : Rl K H0 fs p xs) (q : ∀ l, Φ (.ref l) ((l, .lst xs) :: fs)) : RC (rListOf K) [.ref p] H0 fs Φ := fun H k _ c => ⟨p, xs, rfl, .inl (h H k), fun l hl => c _ _ _ (k.new hl) (q l)⟩
theorem RC.listT {p : Addr} {xs : List V} (h : Rt K H0 fs p xs) (q : ∀ l, Φ (.ref l) ((l, .lst xs) :: fs)) : RC (rListOf K) [.ref p] H0 fs Φ := fun H k _ c => ⟨p, xs, rfl, .inr (h H k), fun l hl => c _ _ _ (k.new hl) (q l)⟩
theorem RC.tupL {p : Addr} {xs : List V} (h : Rl K H0 fs p xs) (q : ∀ l, Φ (.ref l) ((l, .tup xs) :: fs)) : RC (rTupOf K) [.ref p] H0 fs Φ := fun H k _ c => ⟨p, xs, rfl, .inl ⟨h H k, fun l hl => c _ _ _ (k.new hl) (q l)⟩⟩
/-- isinstance -/
theorem RC.isi {x : V} {n : String} {t : Value} {b : Bool} (ht : ∀ H, Kn H0 fs H → TyX K H x t) (hk : PySem.W.kitOne K t (.type n) = some b) (q : Φ (.bl b) fs) : RC (rIsi K) [x, .ty n] H0 fs Φ := fun H k _ c =>
  ⟨x, .ty n, t, .type n, b, rfl, .ty n, ht H k, hk, c _ fs H k q⟩

/-! ### items, slices -/
theorem RW.ixZ {p : Addr} {ns : List Int} {i : Int} (h : Rl K H0 fs p (zV ns)) (hi : 0 ≤ i ∧ i < (ns.length : Int)) (q : Φ (.int (gat ns i)) fs) : RW (rIxL K) (.ref p) (.int i) H0 fs Φ := fun H k _ c =>
  ⟨p, _, i, _, rfl, rfl, h H k, atI_zV hi.1 hi.2, c _ fs H k q⟩
theorem RW.ixL {p : Addr} {xs : List V} {i : Int} (h : Rl K H0 fs p xs) (hi : atI xs i = some v) (q : Φ v fs) : RW (rIxL K) (.ref p) (.int i) H0 fs Φ := fun H k _ c =>
  ⟨p, _, i, _, rfl, rfl, h H k, hi, c _ fs H k q⟩
theorem RW.ixT {p : Addr} {xs : List V} {i : Int} (h : Rt K H0 fs p xs) (hi : atI xs i = some v) (q : Φ v fs) : RW (rIxT K) (.ref p) (.int i) H0 fs Φ := fun H k _ c =>
  ⟨p, _, i, _, rfl, rfl, h H k, hi, c _ fs H k q⟩
theorem WO.no {Φo : Option Int → Fs → Prop} (q : Φo Option.none fs) : WO tNoPart σ H0 fs Φo := fun H k _ c => c Option.none fs H k q
theorem WO.part {Φo : Option Int → Fs → Prop} (h : W te σ H0 fs fun x f1 => ∃ i, x = .int i ∧ Φo (some i) f1) : WO (tPart te) σ H0 fs Φo := fun H k _ c =>
  h H k _ fun _ _ H1 k1 ⟨i, e, q⟩ => ⟨i, e, c _ _ H1 k1 q⟩
theorem W.sl {r : V → Option Int → Option Int → Hp → VK → Prop} {tl th : TO} (h : W te σ H0 fs fun x f1 => WO tl σ H0 f1 fun lo f2 => WO th σ H0 f2 fun hi f3 => RS r x lo hi H0 f3 Φ) : W (tSl r te tl th) σ H0 fs Φ := fun H k Q c =>
  h H k _ fun _ _ H1 k1 h1 => h1 H1 k1 _ fun _ _ H2 k2 h2 => h2 H2 k2 _ fun _ _ H3 k3 h3 => h3 H3 k3 Q c
theorem RS.l {p : Addr} {xs : List V} {lo hi : Option Int} (h : Rl K H0 fs p xs) (q : ∀ l, Φ (.ref l) ((l, .lst (cutV xs lo hi)) :: fs)) : RS (rSlL K) (.ref p) lo hi H0 fs Φ := fun H k _ c =>
  ⟨p, xs, rfl, h H k, fun l hl => c _ _ _ (k.new hl) (q l)⟩
theorem cut_take {ns : List Int} {i : Int} (h : 0 ≤ i) : cutV (zV ns) none (some i) = zV (ns.take i.toNat) := by
  obtain ⟨k, rfl⟩ := Int.eq_ofNat_of_zero_le h
  unfold cutV
  rw [HT.sIx_nat, HT.sIx_none, zV_length, List.drop_zero, Nat.sub_zero]
  unfold zV
  rw [List.map_take]
  have e : ((k : Int)).toNat = k := by simp
  rw [e]
  by_cases hk : k ≤ ns.length
  · rw [Nat.min_eq_left hk]
  · rw [Nat.min_eq_right (by omega), List.take_of_length_le (by simp), List.take_of_length_le (by simp; omega)]
theorem cut_drop {ns : List Int} {i : Int} (h : 0 ≤ i) : cutV (zV ns) (some i) none = zV (ns.drop i.toNat) := by
  obtain ⟨k, rfl⟩ := Int.eq_ofNat_of_zero_le h
  unfold cutV
  rw [HT.sIx_nat, HT.sIx_none, zV_length]
  unfold zV
  rw [List.map_drop]
  have e : ((k : Int)).toNat = k := by simp
  rw [e]
  by_cases hk : k ≤ ns.length
  · rw [Nat.min_eq_left hk, List.take_of_length_le (by simp)]
  · rw [Nat.min_eq_right (by omega), List.drop_of_length_le (by simp), List.drop_of_length_le (by simp; omega)]
    exact List.take_nil
theorem RS.take {p : Addr} {ns : List Int} {i : Int} (h : Rl K H0 fs p (zV ns)) (hi : 0 ≤ i) (q : ∀ l, Φ (.ref l) ((l, .lst (zV (ns.take i.toNat))) :: fs)) : RS (rSlL K) (.ref p) none (some i) H0 fs Φ := RS.l h (by rw [cut_take hi]; exact q)
theorem RS.drop {p : Addr} {ns : List Int} {i : Int} (h : Rl K H0 fs p (zV ns)) (hi : 0 ≤ i) (q : ∀ l, Φ (.ref l) ((l, .lst (zV (ns.drop i.toNat))) :: fs)) : RS (rSlL K) (.ref p) (some i) none H0 fs Φ := RS.l h (by rw [cut_drop hi]; exact q)

/-! ### lists joined, repeated -/
theorem RW.cat {p q : Addr} {xs ys : List V} (h1 : Rx H0 fs p (.lst xs)) (h2 : Rx H0 fs q (.lst ys)) (hl : xs.length + ys.length ≤ 1000000) (c : ∀ l, Φ (.ref l) ((l, .lst (xs ++ ys)) :: fs)) : RW rCat (.ref p) (.ref q) H0 fs Φ := fun H k _ cc =>
  ⟨p, q, xs, ys, rfl, rfl, h1 H k, h2 H k, sz_le hl, fun l hl => cc _ _ _ (k.new hl) (c l)⟩
theorem RW.catZ {p q : Addr} {xs ys : List Int} (h1 : Rx H0 fs p (.lst (zV xs))) (h2 : Rx H0 fs q (.lst (zV ys))) (hl : xs.length + ys.length ≤ 1000000) (c : ∀ l, Φ (.ref l) ((l, .lst (zV (xs ++ ys))) :: fs)) : RW rCat (.ref p) (.ref q) H0 fs Φ :=
  RW.cat h1 h2 (by rw [zV_length, zV_length]; exact hl) (by rw [zV_app]; exact c)
theorem flat_rep (x : Int) : ∀ k : Nat, (List.replicate k (zV [x])).flatten = zV (List.replicate k x)
  | 0 => rfl
  | k + 1 => by
    rw [List.replicate_succ, List.flatten_cons, flat_rep x k, List.replicate_succ]; rfl
theorem RW.rep {p : Addr} {x k : Int} (h1 : Rx H0 fs p (.lst (zV [x]))) (hk : k ≤ 1000000 ∧ -1000000 ≤ k) (c : ∀ l, Φ (.ref l) ((l, .lst (zV (List.replicate k.toNat x))) :: fs)) : RW rRep (.ref p) (.int k) H0 fs Φ := fun H kn _ cc => by
  refine ⟨p, k, zV [x], rfl, rfl, h1 H kn, by omega, by omega, sz_le (by show 1 * k.toNat ≤ _; omega), fun l hl => ?_⟩
  rw [flat_rep]
  exact cc _ _ _ (kn.new hl) (c l)

/-! ### tests -/
theorem WT.test (h : W te σ H0 fs fun x f1 => ∃ b, x = .bl b ∧ ΦT b f1) : WT (tTest te) σ H0 fs ΦT := fun H k _ c =>
  h H k _ fun _ _ H1 k1 ⟨b, e, q⟩ => ⟨b, e, c _ _ H1 k1 q⟩
theorem WT.b (h : W te σ H0 fs fun x f1 => ∃ b, x = .bl b ∧ ΦT b f1) : WT (tB te) σ H0 fs ΦT := fun H k _ c =>
  h H k _ fun _ _ H1 k1 ⟨b, e, q⟩ => ⟨b, e, c _ _ H1 k1 q⟩
theorem WT.not (h : WT t σ H0 fs fun b f1 => ΦT (!b) f1) : WT (tNot t) σ H0 fs ΦT := fun H k _ c => h H k _ fun _ _ H1 k1 q => c _ _ H1 k1 q
theorem WT.and (h : WT t σ H0 fs fun b f1 => (b = true → WT u σ H0 f1 ΦT) ∧ (b = false → ΦT false f1)) : WT (tAnd t u) σ H0 fs ΦT := fun H k _ c =>
  h H k _ fun b _ H1 k1 q => by
    cases b with
    | true => exact (q.1 rfl) H1 k1 _ c
    | false => exact c _ _ H1 k1 (q.2 rfl)
theorem WT.or (h : WT t σ H0 fs fun b f1 => (b = true → ΦT true f1) ∧ (b = false → WT u σ H0 f1 ΦT)) : WT (tOr t u) σ H0 fs ΦT := fun H k _ c =>
  h H k _ fun b _ H1 k1 q => by
    cases b with
    | true => exact c _ _ H1 k1 (q.1 rfl)
    | false => exact (q.2 rfl) H1 k1 _ c
theorem W.andV (h : W ta σ H0 fs fun x f1 => ∃ b, x = .bl b ∧ (b = true → W tb σ H0 f1 Φ) ∧ (b = false → Φ (.bl false) f1)) : W (tAndV ta tb) σ H0 fs Φ := fun H k _ c =>
  h H k _ fun _ _ H1 k1 ⟨b, e, q⟩ => ⟨b, e, by
    cases b with
    | true => exact (q.1 rfl) H1 k1 _ c
    | false => exact c _ _ H1 k1 (q.2 rfl)⟩
theorem W.orV (h : W ta σ H0 fs fun x f1 => ∃ b, x = .bl b ∧ (b = true → Φ (.bl true) f1) ∧ (b = false → W tb σ H0 f1 Φ)) : W (tOrV ta tb) σ H0 fs Φ := fun H k _ c =>
  h H k _ fun _ _ H1 k1 ⟨b, e, q⟩ => ⟨b, e, by
    cases b with
    | true => exact c _ _ H1 k1 (q.1 rfl)
    | false => exact (q.2 rfl) H1 k1 _ c⟩
theorem W.notV (h : W ta σ H0 fs fun x f1 => ∃ b, x = .bl b ∧ Φ (.bl (!b)) f1) : W (tNotV ta) σ H0 fs Φ := fun H k _ c =>
  h H k _ fun _ _ H1 k1 ⟨b, e, q⟩ => ⟨b, e, c _ _ H1 k1 q⟩
theorem W.chain (h : W ta σ H0 fs fun x f1 => W tb σ H0 f1 fun y f2 => RW r x y H0 f2 fun z f3 => ∃ b, z = .bl b ∧ (b = true → W tc σ H0 f3 fun w f4 => RW r' y w H0 f4 Φ) ∧ (b = false → Φ (.bl false) f3)) : W (tChain r r' ta tb tc) σ H0 fs Φ := fun H k Q c =>
  h H k _ fun _ _ H1 k1 h1 => h1 H1 k1 _ fun _ _ H2 k2 h2 => h2 H2 k2 _ fun _ _ H3 k3 ⟨b, e, q⟩ => ⟨b, e, by
    cases b with
    | true => exact (q.1 rfl) H3 k3 _ fun _ _ H4 k4 h4 => h4 H4 k4 Q c
    | false => exact c _ _ H3 k3 (q.2 rfl)⟩
end

/-! ### statements -/
section
variable {σ : St} {H0 : Hp} {fs : Fs} {te ta tb : TE} {t : TT} {D : Ends} {ts tu tw tz : TS} {i : Nat} {v : V} {K : PySem.W.Frag}
theorem S.seq (h : N (ts { D with nx := tz D }) σ H0 fs) : N (tSeq ts tz D) σ H0 fs := h
theorem S.next (h : N D.nx σ H0 fs) : N (tNext D) σ H0 fs := h
theorem S.asg (h : W te σ H0 fs fun v f1 => N D.nx (σ.set i (some v)) H0 f1) : N (tAsg te (gName i) D) σ H0 fs := fun H k => h H k _ fun _ _ H1 k1 q => q H1 k1
theorem S.ret (h : W te σ H0 fs fun v f1 => NR D.rt v H0 f1) : N (tRet te D) σ H0 fs := fun H k => h H k _ fun _ _ H1 k1 q => q H1 k1
theorem S.drop (h : W te σ H0 fs fun _ f1 => N D.nx σ H0 f1) : N (tDrop te D) σ H0 fs := fun H k => h H k _ fun _ _ H1 k1 q => q H1 k1
theorem S.if_ (h : WT t σ H0 fs fun b f1 => (b = true → N (ts D) σ H0 f1) ∧ (b = false → N (tu D) σ H0 f1)) : N (tIfS t ts tu D) σ H0 fs := fun H k => h H k _ fun b _ H1 k1 q => by
  cases b with
  | true => exact (q.1 rfl) H1 k1
  | false => exact (q.2 rfl) H1 k1
/-- if t: x = e, one way: x has w behind it -/
theorem S.ifset (w : V) (h : WT t σ H0 fs fun b f1 => f1 = fs ∧ (b = true → W te σ H0 fs fun v f2 => v = w ∧ f2 = fs) ∧ (b = false → σ.set i (some w) = σ)) (hn : N D.nx (σ.set i (some w)) H0 fs) :
    N (tIfS t (tAsg te (gName i)) tNext D) σ H0 fs := fun H k => h H k _ fun b _ H1 k1 ⟨ef, q1, q2⟩ => by
  subst ef
  cases b with
  | true => exact q1 rfl H1 k1 _ fun v f2 H2 k2 ⟨e, e2⟩ => by subst e e2; exact hn H2 k2
  | false =>
    have := hn H1 k1
    rw [q2 rfl] at this
    exact this
/-- xs.append(e) -/
theorem S.app (h : W ta σ H0 fs fun x f1 => ∃ l, x = .ref l ∧ (∃ ys, Rl K H0 f1 l ys) ∧ W te σ H0 f1 fun v f2 => ∃ (xs : List V) (j : Nat), f2[j]? = some (l, .lst xs) ∧ xs.length < 1000000 ∧ N D.nx σ H0 (f2.set j (l, .lst (xs ++ [v])))) :
    N (tDrop (tBM K "list" rAppend ta (tCons te tNil)) D) σ H0 fs := fun H k => h H k _ fun _ _ H1 k1 ⟨l, e, ⟨ys, hy⟩, q⟩ => by
  subst e
  refine ⟨.inl ⟨rfl, ys, hy H1 k1⟩, q H1 k1 _ fun v f2 H2 k2 ⟨xs, j, hj, hl, n⟩ => ⟨l, xs, v, rfl, rfl, k2.get (List.mem_of_getElem? hj), sz_lt hl, n _ (k2.put hj)⟩⟩
/-- xs[i] = e -/
theorem S.setL (h : W te σ H0 fs fun v f1 => W ta σ H0 f1 fun x f2 => W tb σ H0 f2 fun y f3 => ∃ (l : Addr) (z : Int) (xs : List V) (j : Nat), x = .ref l ∧ y = .int z ∧ f3[j]? = some (l, .lst xs) ∧ (0 ≤ z ∧ z < (xs.length : Int)) ∧ N D.nx σ H0 (f3.set j (l, .lst (xs.set z.toNat v)))) :
    N (tAsg te (gSub ta tb rSetL) D) σ H0 fs := fun H k => h H k _ fun _ _ H1 k1 q => q H1 k1 _ fun _ _ H2 k2 q => q H2 k2 _ fun _ _ H3 k3 ⟨l, z, xs, j, e1, e2, hj, hz, n⟩ => by
  subst e1 e2
  exact ⟨l, xs, z, z.toNat, rfl, rfl, k3.get (List.mem_of_getElem? hj), ixN_int hz.1 hz.2, n _ (k3.put hj)⟩
/-- a, b, .. = e -/
theorem S.asgT {n : Nat} {g : TGs} (h : W te σ H0 fs fun v f1 => ∃ a xs, v = .ref a ∧ Rt K H0 f1 a xs ∧ xs.length = n ∧ ∀ H, Kn H0 f1 H → g xs σ H D.nx) : N (tAsg te (gTup K n g) D) σ H0 fs := fun H k =>
  h H k _ fun _ _ H1 k1 ⟨a, xs, e, hr, hl, q⟩ => ⟨a, xs, e, hr H1 k1, hl, q H1 k1⟩
/-- loops; I: what holds ahead of the i-th turn of the slots and the owned objects -/
structure Lp (H0 : Hp) (I : Nat → St → Fs → Prop) (i : Nat) (σ : St) (H : Hp) : Prop where
  ex : ∃ fs, Kn H0 fs H ∧ I i σ fs
theorem Lp.nx {I : Nat → St → Fs → Prop} {i : Nat} (h : I i σ fs) : N (Lp H0 I i) σ H0 fs := fun _ k => ⟨fs, k, h⟩
theorem Lp.sub {I : Nat → St → Fs → Prop} {i : Nat} (f1 : Fs) (s : List.Sublist f1 fs) (h : I i σ f1) : N (Lp H0 I i) σ H0 fs := fun _ k => ⟨f1, k.sub s, h⟩
theorem S.forR {ta : TA} {j : Nat} {n : Int} (I : Nat → St → Fs → Prop)
    (h : WA ta σ H0 fs fun vs f1 => vs = [.int n] ∧ n ≤ 1000000 ∧ -1000000 ≤ n ∧ I 0 σ f1)
    (hs : ∀ (i : Nat) σ' f', (i : Int) < n → I i σ' f' → N (ts { D with nx := Lp H0 I (i + 1), ct := Lp H0 I (i + 1), bk := D.nx }) (σ'.set j (some (.int (i : Int)))) H0 f')
    (hd : ∀ σ' f', I n.toNat σ' f' → N D.nx σ' H0 f') : N (tFor (iRng1 ta) (gName j) ts D) σ H0 fs := fun H k =>
  h H k _ fun vs f1 H1 k1 ⟨e, hn, hm, h0⟩ => by
    refine ⟨n, e, by omega, by omega, for_range (lo := 0) (n := n.toNat) (Lp H0 I) ⟨f1, k1, h0⟩ (fun i σ' H' hi p => ?_) (fun σ' H' p => ?_)⟩
    · obtain ⟨f', k', p⟩ := p.ex
      have e0 : (0 : Int) + (i : Int) = (i : Int) := Int.zero_add _
      show ts _ (σ'.set j (some (.int ((0 : Int) + (i : Int))))) H'
      rw [e0]
      exact hs i σ' f' (by omega) p H' k'
    · obtain ⟨f', k', p⟩ := p.ex
      exact hd σ' f' p H' k'
theorem S.forR2 {ta : TA} {j : Nat} {lo n : Int} (I : Nat → St → Fs → Prop)
    (h : WA ta σ H0 fs fun vs f1 => vs = [.int lo, .int n] ∧ (n ≤ 1000000 ∧ -1000000 ≤ n ∧ lo ≤ 1000000 ∧ -1000000 ≤ lo) ∧ I 0 σ f1)
    (hs : ∀ (i : Nat) σ' f', lo + (i : Int) < n → I i σ' f' → N (ts { D with nx := Lp H0 I (i + 1), ct := Lp H0 I (i + 1), bk := D.nx }) (σ'.set j (some (.int (lo + (i : Int))))) H0 f')
    (hd : ∀ σ' f', I (n - lo).toNat σ' f' → N D.nx σ' H0 f') : N (tFor (iRng2 ta) (gName j) ts D) σ H0 fs := fun H k =>
  h H k _ fun vs f1 H1 k1 ⟨e, hn, h0⟩ => by
    refine ⟨lo, n, e, ⟨by omega, by omega, by omega, by omega⟩, for_range (lo := lo) (n := (n - lo).toNat) (Lp H0 I) ⟨f1, k1, h0⟩ (fun i σ' H' hi p => ?_) (fun σ' H' p => ?_)⟩
    · obtain ⟨f', k', p⟩ := p.ex
      exact hs i σ' f' (by omega) p H' k'
    · obtain ⟨f', k', p⟩ := p.ex
      exact hd σ' f' p H' k'
/-- over a list that the body leaves as it is -/
theorem S.forL {a : Addr} {xs : List V} {g : TG} (I : Nat → St → Fs → Prop)
    (h : W te σ H0 fs fun v f1 => v = .ref a ∧ Rl K H0 f1 a xs ∧ I 0 σ f1)
    (hl : ∀ i σ' f', I i σ' f' → Rl K H0 f' a xs)
    (hs : ∀ (i : Nat) x σ' f', xs[i]? = some x → I i σ' f' → ∀ H, Kn H0 f' H → g x σ' H fun σ2 H2 => ts { D with nx := Lp H0 I (i + 1), ct := Lp H0 I (i + 1), bk := D.nx } σ2 H2)
    (hd : ∀ σ' f', I xs.length σ' f' → N D.nx σ' H0 f') : N (tFor (iList K te) g ts D) σ H0 fs := fun H k =>
  h H k _ fun v f1 H1 k1 ⟨e, hr, h0⟩ => by
    refine ⟨a, e, ⟨xs, hr H1 k1⟩, for_list (K := K) (a := a) (xs := xs) (Lp H0 I) ⟨f1, k1, h0⟩ (fun i σ' H' _ p => ?_) (fun i x σ' H' hx p => ?_) (fun σ' H' p => ?_)⟩
    · obtain ⟨f', k', p⟩ := p.ex
      exact hl i σ' f' p H' k'
    · obtain ⟨f', k', p⟩ := p.ex
      exact hs i x σ' f' hx p H' k'
    · obtain ⟨f', k', p⟩ := p.ex
      exact hd σ' f' p H' k'
/-- .. its items ints, its target a name -/
theorem S.forZ {a : Addr} {ns : List Int} {j : Nat} (I : Nat → St → Fs → Prop)
    (h : W te σ H0 fs fun v f1 => v = .ref a ∧ Rl K H0 f1 a (zV ns) ∧ I 0 σ f1)
    (hl : ∀ i σ' f', I i σ' f' → Rl K H0 f' a (zV ns))
    (hs : ∀ (i : Nat) σ' f', i < ns.length → I i σ' f' → N (ts { D with nx := Lp H0 I (i + 1), ct := Lp H0 I (i + 1), bk := D.nx }) (σ'.set j (some (.int (ns.getD i 0)))) H0 f')
    (hd : ∀ σ' f', I ns.length σ' f' → N D.nx σ' H0 f') : N (tFor (iList K te) (gName j) ts D) σ H0 fs := by
  refine S.forL (xs := zV ns) I h hl (fun i x σ' f' hx p H k => ?_) (fun σ' f' p => hd σ' f' (by rw [zV_length] at p; exact p))
  obtain ⟨hi, e⟩ := List.getElem?_eq_some_iff.mp hx
  rw [zV_length] at hi
  have e2 : x = .int (ns.getD i 0) := by
    have := zV_get (ns := ns) (i := i) (x := ns[i]) (List.getElem?_eq_getElem hi)
    rw [hx] at this
    rw [Option.some.inj this, List.getD_eq_getElem?_getD, List.getElem?_eq_getElem hi]; rfl
  subst e2
  exact hs i σ' f' hi p H k
/-- reversed(a list of ints) -/
theorem S.forRev {ta : TA} {a : Addr} {ns : List Int} {j : Nat} (I : Nat → St → Fs → Prop)
    (h : WA ta σ H0 fs fun vs f1 => vs = [.ref a] ∧ Rl K H0 f1 a (zV ns) ∧ I 0 σ f1)
    (hl : ∀ i σ' f', I i σ' f' → Rl K H0 f' a (zV ns))
    (hs : ∀ (i : Nat) σ' f', i < ns.length → I i σ' f' → N (ts { D with nx := Lp H0 I (i + 1), ct := Lp H0 I (i + 1), bk := D.nx }) (σ'.set j (some (.int (ns.reverse.getD i 0)))) H0 f')
    (hd : ∀ σ' f', I ns.length σ' f' → N D.nx σ' H0 f') : N (tFor (iRev K ta) (gName j) ts D) σ H0 fs := fun H k =>
  h H k _ fun vs f1 H1 k1 ⟨e, hr, h0⟩ => by
    refine ⟨a, zV ns, e, hr H1 k1, RT.for_Itv (K := K) (a := a) (xs := zV ns) (Lp H0 I) ⟨f1, k1, h0⟩ (fun i σ' H' p => ?_) (fun i x σ' H' hi hx p => ?_) (fun σ' H' p => ?_)⟩
    · obtain ⟨f', k', p⟩ := p.ex
      exact hl i σ' f' p H' k'
    · obtain ⟨f', k', p⟩ := p.ex
      rw [zV_length] at hi hx
      have hb : ns.length - 1 - i < ns.length := by omega
      have e2 : x = .int (ns.reverse.getD i 0) := by
        have := zV_get (ns := ns) (i := ns.length - 1 - i) (x := ns[ns.length - 1 - i]) (List.getElem?_eq_getElem hb)
        rw [hx] at this
        rw [Option.some.inj this, List.getD_eq_getElem?_getD, List.getElem?_reverse hi, List.getElem?_eq_getElem hb]; rfl
      subst e2
      exact hs i σ' f' hi p H' k'
    · obtain ⟨f', k', p⟩ := p.ex
      rw [zV_length] at p
      exact hd σ' f' p H' k'
/-- range(n), n written: turn by turn -/
structure Un (H0 : Hp) (I : St → Fs → Prop) (σ : St) (H : Hp) : Prop where
  ex : ∃ fs, Kn H0 fs H ∧ I σ fs
theorem Un.nx {I : St → Fs → Prop} (h : I σ fs) : N (Un H0 I) σ H0 fs := fun _ k => ⟨fs, k, h⟩
def UU (H0 : Hp) (ts : TS) (D : Ends) (j : Nat) : Nat → Nat → St → Fs → Prop
  | 0, _, σ, f => N D.nx σ H0 f
  | m + 1, i, σ, f => N (ts { D with nx := Un H0 (UU H0 ts D j m (i + 1)), ct := Un H0 (UU H0 ts D j m (i + 1)), bk := D.nx }) (σ.set j (some (.int (i : Int)))) H0 f
theorem UU.zero {j i : Nat} (h : N D.nx σ H0 fs) : UU H0 ts D j 0 i σ fs := h
theorem UU.succ {j i m : Nat} (h : N (ts { D with nx := Un H0 (UU H0 ts D j m (i + 1)), ct := Un H0 (UU H0 ts D j m (i + 1)), bk := D.nx }) (σ.set j (some (.int (i : Int)))) H0 fs) : UU H0 ts D j (m + 1) i σ fs := h
theorem S.forU {ta : TA} {j : Nat} (n : Nat) (h : WA ta σ H0 fs fun vs f1 => vs = [.int (n : Int)] ∧ n ≤ 1000000 ∧ UU H0 ts D j n 0 σ f1) : N (tFor (iRng1 ta) (gName j) ts D) σ H0 fs := fun H k =>
  h H k _ fun vs f1 H1 k1 ⟨e, hn, h0⟩ => by
    refine ⟨(n : Int), e, by omega, by omega, for_range (lo := 0) (n := ((n : Int)).toNat) (fun i σ H => ∃ m f, m + i = n ∧ Kn H0 f H ∧ UU H0 ts D j m i σ f) ⟨n, f1, by omega, k1, h0⟩ (fun i σ' H' hi p => ?_) (fun σ' H' p => ?_)⟩
    · obtain ⟨m, f, hm, k', p⟩ := p
      obtain ⟨m, rfl⟩ : ∃ m', m = m' + 1 := ⟨m - 1, by omega⟩
      have e0 : (0 : Int) + (i : Int) = (i : Int) := Int.zero_add _
      show ts _ (σ'.set j (some (.int ((0 : Int) + (i : Int))))) H'
      rw [e0]
      have q := p H' k'
      have ee : Un H0 (UU H0 ts D j m (i + 1)) = fun σ H => ∃ m f, m + (i + 1) = n ∧ Kn H0 f H ∧ UU H0 ts D j m (i + 1) σ f := by
        funext σ2 H2
        refine propext ⟨fun ⟨f, k2, u⟩ => ⟨m, f, by omega, k2, u⟩, fun ⟨m', f, hm', k2, u⟩ => ⟨f, k2, ?_⟩⟩
        have : m' = m := by omega
        subst this
        exact u
      rw [ee] at q
      exact q
    · obtain ⟨m, f, hm, k', p⟩ := p
      have : m = 0 := by omega
      subst this
      exact p H' k'
/-- a statement, then the rest, with a word between them -/
def tCut (t u : TS) : TS := fun D σ H => ∃ Mid : St → Hp → Prop, t { D with nx := Mid } σ H ∧ ∀ σ' H', Mid σ' H' → u D σ' H'
theorem pss_cut {X : Cx} {st : Stmt} {rest : List Stmt} {t u : TS} (h1 : PS X st t) (h2 : PSs X rest u) : PSs X (st :: rest) (tCut t u) := by
  refine ⟨fun pins s σ H D I h => ?_⟩
  obtain ⟨Mid, hm, hu⟩ := h
  refine wpAny_execs_cons (thn (h1.run pins s σ H { D with nx := Mid } I hm) fun f s1 q => ?_)
  cases f with
  | next =>
    obtain ⟨σ', H', I', q⟩ := q
    exact h2.run pins s1 σ' H' D I' (hu σ' H' q)
  | ret v => exact q
  | brk => exact q
  | cont => exact q
theorem S.cut (I : St → Fs → Prop) (h : N (ts { D with nx := Un H0 I }) σ H0 fs) (k : ∀ σ' f', I σ' f' → N (tz D) σ' H0 f') : N (tCut ts tz D) σ H0 fs := fun H kn =>
  ⟨Un H0 I, h H kn, fun σ' H' ⟨⟨f', k', i⟩⟩ => k σ' f' i H' k'⟩
theorem Un.sub {I : St → Fs → Prop} (f1 : Fs) (s : List.Sublist f1 fs) (h : I σ f1) : N (Un H0 I) σ H0 fs := fun _ k => ⟨f1, k.sub s, h⟩
/-- while; I: what holds, by a number that falls -/
structure Wl (H0 : Hp) (I : Nat → St → Fs → Prop) (m : Nat) (σ : St) (H : Hp) : Prop where
  ex : ∃ m', m' < m ∧ ∃ fs, Kn H0 fs H ∧ I m' σ fs
theorem Wl.nx {I : Nat → St → Fs → Prop} {m m' : Nat} (hm : m' < m) (h : I m' σ fs) : N (Wl H0 I m) σ H0 fs := fun _ k => ⟨m', hm, fs, k, h⟩
theorem Wl.sub {I : Nat → St → Fs → Prop} {m m' : Nat} (f1 : Fs) (s : List.Sublist f1 fs) (hm : m' < m) (h : I m' σ f1) : N (Wl H0 I m) σ H0 fs := fun _ k => ⟨m', hm, f1, k.sub s, h⟩
theorem S.while_ (I : Nat → St → Fs → Prop) (m0 : Nat) (h0 : I m0 σ fs)
    (hs : ∀ m σ' f', I m σ' f' → WT t σ' H0 f' fun b f1 => (b = true → N (ts { D with nx := Wl H0 I m, ct := Wl H0 I m, bk := D.nx }) σ' H0 f1) ∧ (b = false → N D.nx σ' H0 f1)) :
    N (tWhile t ts D) σ H0 fs := fun H k => by
  refine ⟨fun m σ H => ∃ fs, Kn H0 fs H ∧ I m σ fs, ⟨m0, fs, k, h0⟩, fun m σ' H' ⟨f', k', p⟩ => ?_⟩
  refine hs m σ' f' p H' k' _ fun b f1 H1 k1 q => ?_
  cases b with
  | true =>
    show ∃ N' : St → Hp → Prop, _
    exact ⟨Wl H0 I m, fun σ2 H2 w => w.ex, (q.1 rfl) H1 k1⟩
  | false => exact (q.2 rfl) H1 k1
end

/-! ### comprehensions whose items are all kept -/
section
variable {σ : St} {H0 : Hp} {fs : Fs} {Φ : CV} {te tl : TE} {K : PySem.W.Frag}
/-- over range(n): the i-th item is f i; the item's reading leaves the owned objects as they are (or drops what it made) -/
theorem W.lcR {ta : TA} {j : Nat} {vs : List Nat} {n : Int} (f : Nat → V)
    (h : WA ta σ H0 fs fun us f1 => us = [.int n] ∧ n ≤ 100000 ∧ -100000 ≤ n ∧
      (∀ x, wipe ((wipe σ vs).set j (some x)) vs = wipe σ vs) ∧
      (∀ (i : Nat) (D : Addr) (acc : List V), (i : Int) < n → W te ((wipe σ vs).set j (some (.int (i : Int)))) H0 ((D, .lst acc) :: f1) fun v f2 => v = f i ∧ List.Sublist ((D, .lst acc) :: f1) f2) ∧
      ∀ D, Φ (.ref D) ((D, .lst ((List.range n.toNat).map f)) :: f1)) : W (tLc (iRng1 ta) (gName j) tYes te vs) σ H0 fs Φ := fun H k Q c =>
  h H k _ fun us f1 H1 k1 ⟨e, hn, hm, hw, hs, hd⟩ => by
    refine ⟨n, e, by omega, by omega, fun D hD => ?_⟩
    refine lc_range (lo := 0) (n := n.toNat) (fun i H' => Kn H0 ((D, .lst ((List.range i).map f)) :: f1) H') (k1.new hD) (fun i H' hi p => ?_) (fun H' p => c _ _ _ p (hd D))
    have e0 : (0 : Int) + (i : Int) = (i : Int) := Int.zero_add _
    refine ⟨hw _, ?_⟩
    show te ((wipe σ vs).set j (some (.int ((0 : Int) + (i : Int))))) H' _
    rw [e0]
    refine hs i D _ (by omega) H' p _ fun v f2 H2 k2 ⟨ev, sb⟩ => ?_
    subst ev
    have k3 := k2.sub sb
    refine ⟨_, k3.get (.head _), sz_lt (by simp; omega), ?_⟩
    have k4 := k3.put (i := 0) (o' := .lst ((List.range i).map f ++ [f i])) rfl
    show Kn H0 ((D, .lst ((List.range (i + 1)).map f)) :: f1) _
    rw [List.range_succ, List.map_append]
    exact k4
/-- over a list of ints -/
theorem W.lcZ {ns : List Int} {j : Nat} {vs : List Nat} (f : Int → V)
    (h : W tl σ H0 fs fun v f1 => ∃ a, v = .ref a ∧ Rl K H0 f1 a (zV ns) ∧ ns.length ≤ 100000 ∧
      (∀ x, wipe ((wipe σ vs).set j (some x)) vs = wipe σ vs) ∧
      (∀ (x : Int) (D : Addr) (acc : List V), x ∈ ns → W te ((wipe σ vs).set j (some (.int x))) H0 ((D, .lst acc) :: f1) fun v f2 => v = f x ∧ List.Sublist ((D, .lst acc) :: f1) f2) ∧
      ∀ D, Φ (.ref D) ((D, .lst (ns.map f)) :: f1)) : W (tLc (iList K tl) (gName j) tYes te vs) σ H0 fs Φ := fun H k Q c =>
  h H k _ fun v f1 H1 k1 ⟨a, e, hr, hn, hw, hs, hd⟩ => by
    refine ⟨a, e, ⟨_, hr H1 k1⟩, fun D hD => ?_⟩
    refine lc_list (K := K) (a := a) (xs := zV ns) (fun i H' => Kn H0 ((D, .lst ((ns.take i).map f)) :: f1) H') (k1.new hD) (fun i H' _ p => hr H' p.drop) (fun i x H' hi p => ?_) (fun H' p => ?_)
    · obtain ⟨hl, e1⟩ := List.getElem?_eq_some_iff.mp hi
      rw [zV_length] at hl
      have e2 : x = .int ns[i] := by
        have := zV_get (ns := ns) (i := i) (x := ns[i]) (List.getElem?_eq_getElem hl)
        rw [hi] at this
        exact Option.some.inj this
      subst e2
      refine ⟨hw _, ?_⟩
      refine hs ns[i] D _ (List.getElem_mem hl) H' p _ fun v f2 H2 k2 ⟨ev, sb⟩ => ?_
      subst ev
      have k3 := k2.sub sb
      refine ⟨_, k3.get (.head _), sz_lt (by simp; omega), ?_⟩
      have k4 := k3.put (i := 0) (o' := .lst ((ns.take i).map f ++ [f ns[i]])) rfl
      show Kn H0 ((D, .lst ((ns.take (i + 1)).map f)) :: f1) _
      rw [List.take_add_one, List.getElem?_eq_getElem hl, List.map_append]
      exact k4
    · rw [zV_length, List.take_length] at p
      exact c _ _ _ p (hd D)
end
end Pa

namespace Pa
open PySem PySem.Spec PyProof.Rows L2

/-! ### products, quotients -/
section
variable {X : Cx}
theorem op_mulG : OpR X (binaryOp .Mult) (rI IntMulOk fun i j => .int (i * j)) := opI fun _ _ _ _ _ _ _ hc q => mul_int q hc
/-- // by a divisor other than nought -/
def CDivG (i j : Int) : Prop := j ≠ 0 ∧ Builtin.divisionGoesByPylong i j = false
theorem op_fdivG : OpR X (binaryOp .FloorDiv) (rI CDivG fun i j => .int (i.fdiv j)) := opI fun _ _ _ _ _ _ _ hc q => floordiv_int hc.1 q (.inl hc.2)
theorem op_addS : OpR X (binaryOp .Add) (fun x y H Q => ∃ i j, x = .str i ∧ y = .str j ∧ i.length + j.length ≤ sizeLine ∧ Q (.str (i ++ j)) H) := op_add_str
end
theorem CDivG.small {i j : Int} (h : j ≠ 0) (h2 : j.natAbs < 1073741824) : CDivG i j := ⟨h, PyProof.noPylong_small h2⟩
theorem CDivG.bits {i j : Int} {b : Nat} (h : j ≠ 0) (h2 : j.natAbs < 2 ^ b) (hb : b ≤ 9000) : CDivG i j :=
  ⟨h, PyProof.noPylong_of_log2 ((Nat.log2_lt (fun z => h (Int.natAbs_eq_zero.mp z))).mpr (Nat.lt_of_lt_of_le h2 (Nat.pow_le_pow_right (by decide) hb)))⟩
theorem mulL {i j : Int} (h1 : -(2 ^ 64) < i) (h2 : i < 2 ^ 64) : IntMulOk i j := .of_left (intBits_le_64 h1 h2)
theorem mulR {i j : Int} (h1 : -(2 ^ 64) < j) (h2 : j < 2 ^ 64) : IntMulOk i j := .of_right (intBits_le_64 h1 h2)
theorem bits_of {i : Int} {a : Nat} (h : i.natAbs < 2 ^ a) : Builtin.Int.intBits i ≤ a := by
  unfold Builtin.Int.intBits
  split
  · exact Nat.zero_le _
  · by_cases h0 : i.natAbs = 0
    · rename_i hi
      exact absurd (by simpa using (Int.natAbs_eq_zero.mp h0)) hi
    · have := (Nat.log2_lt h0).mpr h
      omega
theorem mulB {i j : Int} {a b : Nat} (ha : i.natAbs < 2 ^ a) (hb : j.natAbs < 2 ^ b) (h : a + b ≤ 134217728) : IntMulOk i j := by
  have h1 := bits_of ha
  have h2 := bits_of hb
  have e : bitsLine = 134217728 := by decide
  unfold IntMulOk
  intro z
  rw [Bool.and_eq_true] at z
  have z2 := z.2
  unfold Builtin.Int.intTooBig at z2
  have z3 := of_decide_eq_true z2
  rw [e] at z3
  omega

/-! ### comprehensions of ints -/
section
variable {σ : St} {H0 : Hp} {fs : Fs} {Φ : CV} {te tl : TE} {K : PySem.W.Frag}
theorem map_zV {α : Type} (l : List α) (g : α → Int) : l.map (fun i => V.int (g i)) = zV (l.map g) := by
  unfold zV; rw [List.map_map]; rfl
theorem W.lcRz {ta : TA} {j : Nat} {vs : List Nat} {n : Int} (g : Nat → Int)
    (h : WA ta σ H0 fs fun us f1 => us = [.int n] ∧ n ≤ 100000 ∧ -100000 ≤ n ∧
      (∀ x, wipe ((wipe σ vs).set j (some x)) vs = wipe σ vs) ∧
      (∀ (i : Nat) (D : Addr) (acc : List V), (i : Int) < n → W te ((wipe σ vs).set j (some (.int (i : Int)))) H0 ((D, .lst acc) :: f1) fun v f2 => v = .int (g i) ∧ List.Sublist ((D, .lst acc) :: f1) f2) ∧
      ∀ D, Φ (.ref D) ((D, .lst (zV ((List.range n.toNat).map g))) :: f1)) : W (tLc (iRng1 ta) (gName j) tYes te vs) σ H0 fs Φ := by
  refine W.lcR (n := n) (fun i => .int (g i)) ?_
  rw [map_zV]
  exact h
theorem W.lcZz {ns : List Int} {j : Nat} {vs : List Nat} (g : Int → Int)
    (h : W tl σ H0 fs fun v f1 => ∃ a, v = .ref a ∧ Rl K H0 f1 a (zV ns) ∧ ns.length ≤ 100000 ∧
      (∀ x, wipe ((wipe σ vs).set j (some x)) vs = wipe σ vs) ∧
      (∀ (x : Int) (D : Addr) (acc : List V), x ∈ ns → W te ((wipe σ vs).set j (some (.int x))) H0 ((D, .lst acc) :: f1) fun v f2 => v = .int (g x) ∧ List.Sublist ((D, .lst acc) :: f1) f2) ∧
      ∀ D, Φ (.ref D) ((D, .lst (zV (ns.map g))) :: f1)) : W (tLc (iList K tl) (gName j) tYes te vs) σ H0 fs Φ := by
  refine W.lcZ (ns := ns) (fun i => .int (g i)) ?_
  rw [map_zV]
  exact h
end

/-! ### isinstance -/
section
variable {H0 : Hp} {fs : Fs} {Φ : CV} {K : PySem.W.Frag}
theorem RC.isiII {i : Int} (q : Φ (.bl true) fs) : RC (rIsi K) [.int i, .ty "int"] H0 fs Φ := RC.isi (fun _ _ => .base (.int i)) (kit_ty (by decide +kernel)) q
theorem RC.isiIB {i : Int} (q : Φ (.bl false) fs) : RC (rIsi K) [.int i, .ty "bool"] H0 fs Φ := RC.isi (fun _ _ => .base (.int i)) (kit_ty (by decide +kernel)) q
theorem RC.isiBB {b : Bool} (q : Φ (.bl true) fs) : RC (rIsi K) [.bl b, .ty "bool"] H0 fs Φ := RC.isi (fun _ _ => .base (.bl b)) (kit_ty (by decide +kernel)) q
theorem RC.isiSI {x : Str} (q : Φ (.bl false) fs) : RC (rIsi K) [.str x, .ty "int"] H0 fs Φ := RC.isi (fun _ _ => .base (.str x)) (kit_ty (by decide +kernel)) q
theorem RC.isiSB {x : Str} (q : Φ (.bl false) fs) : RC (rIsi K) [.str x, .ty "bool"] H0 fs Φ := RC.isi (fun _ _ => .base (.str x)) (kit_ty (by decide +kernel)) q
theorem RC.isiSS {x : Str} (q : Φ (.bl true) fs) : RC (rIsi K) [.str x, .ty "str"] H0 fs Φ := RC.isi (fun _ _ => .base (.str x)) (kit_ty (by decide +kernel)) q
theorem RC.isiNI (q : Φ (.bl false) fs) : RC (rIsi K) [.non, .ty "int"] H0 fs Φ := RC.isi (fun _ _ => .base .non) (kit_ty (by decide +kernel)) q
theorem RC.isiNB (q : Φ (.bl false) fs) : RC (rIsi K) [.non, .ty "bool"] H0 fs Φ := RC.isi (fun _ _ => .base .non) (kit_ty (by decide +kernel)) q
theorem RC.isiLL {p : Addr} {xs : List V} (h : Rx H0 fs p (.lst xs)) (q : Φ (.bl true) fs) : RC (rIsi K) [.ref p, .ty "list"] H0 fs Φ := RC.isi (fun H k => .base (.lst (h H k))) (kit_ty (by decide +kernel)) q
theorem RC.isiTT {p : Addr} {xs : List V} (h : Rx H0 fs p (.tup xs)) (q : Φ (.bl true) fs) : RC (rIsi K) [.ref p, .ty "tuple"] H0 fs Φ := RC.isi (fun H k => .base (.tup (h H k))) (kit_ty (by decide +kernel)) q
theorem RC.isiLI {p : Addr} {xs : List V} (h : Rx H0 fs p (.lst xs)) (q : Φ (.bl false) fs) : RC (rIsi K) [.ref p, .ty "int"] H0 fs Φ := RC.isi (fun H k => .base (.lst (h H k))) (kit_ty (by decide +kernel)) q
theorem RC.isiLB {p : Addr} {xs : List V} (h : Rx H0 fs p (.lst xs)) (q : Φ (.bl false) fs) : RC (rIsi K) [.ref p, .ty "bool"] H0 fs Φ := RC.isi (fun H k => .base (.lst (h H k))) (kit_ty (by decide +kernel)) q
theorem RC.isiTI {p : Addr} {xs : List V} (h : Rx H0 fs p (.tup xs)) (q : Φ (.bl false) fs) : RC (rIsi K) [.ref p, .ty "int"] H0 fs Φ := RC.isi (fun H k => .base (.tup (h H k))) (kit_ty (by decide +kernel)) q
theorem RC.isiTB {p : Addr} {xs : List V} (h : Rx H0 fs p (.tup xs)) (q : Φ (.bl false) fs) : RC (rIsi K) [.ref p, .ty "bool"] H0 fs Φ := RC.isi (fun H k => .base (.tup (h H k))) (kit_ty (by decide +kernel)) q
end

theorem S.dropS {σ : St} {H0 : Hp} {fs : Fs} {tr : TA} {D : Ends} {sp : Sp} {E : St → XK} (h : W (tCallS sp E tr) σ H0 fs fun _ f1 => N D.nx σ H0 f1) : N (tDrop (tCallS sp E tr) D) σ H0 fs := S.drop h
/-! ### the ends -/
theorem N.sub {e : St → Hp → Prop} {σ : St} {H0 : Hp} {fs : Fs} (f0 : Fs) (s : List.Sublist f0 fs) (h : N e σ H0 f0) : N e σ H0 fs := fun H k => h H (k.sub s)
theorem N.of {e : St → Hp → Prop} {σ : St} {H0 : Hp} {fs : Fs} (h : N e σ H0 fs) : ∀ H, Kn H0 fs H → e σ H := h
theorem N.go {t : TS} {D : Ends} {σ : St} {H : Hp} (h : N (t D) σ H []) : t D σ H := h H (Same.refl H)
theorem NR.sub {Q : VK} {v : V} {H : Hp} {f1 f2 : Fs} (h : NR Q v H f1) (s : List.Sublist f1 f2) : NR Q v H f2 := fun H' k => h H' (k.sub s)
theorem NR.k {Q : VK} {v : V} {H : Hp} {f1 : Fs} (h : NR Q v H f1) {H' : Hp} (k : Kn H f1 H') : Q v H' := h H' k
end Pa

namespace Pa

/-! ### rows without noughts at their end -/
def trim (xs : List Int) : List Int := (xs.reverse.dropWhile (· == 0)).reverse
theorem trim_nil : trim [] = [] := rfl
theorem trim_zero (xs : List Int) : trim (xs ++ [0]) = trim xs := by
  unfold trim
  rw [List.reverse_append]
  rfl
theorem trim_last (xs : List Int) {x : Int} (h : x ≠ 0) : trim (xs ++ [x]) = xs ++ [x] := by
  unfold trim
  rw [List.reverse_append]
  show (List.dropWhile (· == 0) (x :: xs.reverse)).reverse = _
  rw [List.dropWhile_cons_of_neg (by simpa using h), List.reverse_cons, List.reverse_reverse]
/-- its last number is not nought -/
def Tr (xs : List Int) : Prop := trim xs = xs
theorem snoc_cases (xs : List Int) : xs = [] ∨ ∃ ys y, xs = ys ++ [y] := by
  cases h : xs.reverse with
  | nil => left; simpa using h
  | cons y ys => right; exact ⟨ys.reverse, y, by rw [← List.reverse_reverse xs, h, List.reverse_cons]⟩
theorem trim_cases (xs : List Int) : ∃ k, xs = trim xs ++ List.replicate k 0 ∧ (trim xs = [] ∨ ∃ ys y, trim xs = ys ++ [y] ∧ y ≠ 0) := by
  generalize hn : xs.length = n
  induction n generalizing xs with
  | zero =>
    have : xs = [] := List.length_eq_zero_iff.mp hn
    subst this
    exact ⟨0, rfl, .inl rfl⟩
  | succ n ih =>
    rcases snoc_cases xs with rfl | ⟨ys, y, rfl⟩
    · simp at hn
    · by_cases hy : y = 0
      · subst hy
        obtain ⟨k, e, c⟩ := ih ys (by simpa using hn)
        rw [trim_zero]
        refine ⟨k + 1, ?_, c⟩
        rw [List.replicate_succ', ← List.append_assoc, ← e]
      · refine ⟨0, ?_, .inr ⟨ys, y, trim_last ys hy, hy⟩⟩
        rw [trim_last ys hy]; simp
theorem tr_trim (xs : List Int) : Tr (trim xs) := by
  obtain ⟨k, e, c | ⟨ys, y, c, hy⟩⟩ := trim_cases xs
  · unfold Tr; rw [c]; rfl
  · unfold Tr; rw [c, trim_last ys hy]
theorem trim_length_le (xs : List Int) : (trim xs).length ≤ xs.length := by
  obtain ⟨k, e, _⟩ := trim_cases xs
  have := congrArg List.length e
  rw [List.length_append] at this
  omega
theorem mem_trim {xs : List Int} {x : Int} (h : x ∈ trim xs) : x ∈ xs := by
  obtain ⟨k, e, _⟩ := trim_cases xs
  rw [e]; exact List.mem_append_left _ h
theorem tr_nil : Tr [] := rfl
theorem tr_last {xs : List Int} (h : Tr xs) (hne : xs ≠ []) : xs.getLast hne ≠ 0 := by
  rcases snoc_cases xs with rfl | ⟨ys, y, rfl⟩
  · exact absurd rfl hne
  · rw [show (ys ++ [y]).getLast hne = y by simp]
    intro hy
    subst hy
    unfold Tr at h
    rw [trim_zero] at h
    have := congrArg List.length h
    have h2 := trim_length_le ys
    simp at this
    omega
theorem tr_of_last {ys : List Int} {y : Int} (h : y ≠ 0) : Tr (ys ++ [y]) := trim_last ys h
theorem take_succ_getD {xs : List Int} {n : Nat} (h : n < xs.length) : xs.take (n + 1) = xs.take n ++ [xs.getD n 0] := by
  rw [List.take_add_one, List.getElem?_eq_getElem h, List.getD_eq_getElem?_getD, List.getElem?_eq_getElem h]; rfl

theorem trim_rep (xs : List Int) : ∀ k : Nat, trim (xs ++ List.replicate k 0) = trim xs
  | 0 => by simp
  | k + 1 => by rw [List.replicate_succ', ← List.append_assoc, trim_zero, trim_rep xs k]

/-! ### bounds -/
def Bd (a : Nat) (x : Int) : Prop := x.natAbs < 2 ^ a
def BdL (a : Nat) (xs : List Int) : Prop := ∀ x ∈ xs, x.natAbs < 2 ^ a
theorem Bd.mono {a b : Nat} {x : Int} (h : Bd a x) (hab : a ≤ b) : Bd b x := Nat.lt_of_lt_of_le h (Nat.pow_le_pow_right (by decide) hab)
theorem BdL.mono {a b : Nat} {xs : List Int} (h : BdL a xs) (hab : a ≤ b) : BdL b xs := fun x hx => Bd.mono (h x hx) hab
theorem Bd.mul {a b : Nat} {x y : Int} (hx : Bd a x) (hy : Bd b y) : Bd (a + b) (x * y) := by
  unfold Bd at *
  rw [Int.natAbs_mul, Nat.pow_add]
  exact Nat.mul_lt_mul'' hx hy
theorem Bd.add {a : Nat} {x y : Int} (hx : Bd a x) (hy : Bd a y) : Bd (a + 1) (x + y) := by
  unfold Bd at *
  have := Int.natAbs_add_le x y
  rw [Nat.pow_succ]; omega
theorem Bd.neg {a : Nat} {x : Int} (hx : Bd a x) : Bd a (-x) := by
  unfold Bd at *; rw [Int.natAbs_neg]; exact hx
theorem Bd.sub {a : Nat} {x y : Int} (hx : Bd a x) (hy : Bd a y) : Bd (a + 1) (x - y) := by
  rw [Int.sub_eq_add_neg]; exact hx.add hy.neg
theorem Bd.zero {a : Nat} : Bd a 0 := by
  unfold Bd; exact Nat.two_pow_pos a
theorem BdL.trim {a : Nat} {xs : List Int} (h : BdL a xs) : BdL a (trim xs) := fun x hx => h x (mem_trim hx)
theorem BdL.at {a : Nat} {xs : List Int} (h : BdL a xs) (i : Nat) : Bd a (xs.getD i 0) := by
  rw [List.getD_eq_getElem?_getD]
  cases e : xs[i]? with
  | none => exact Bd.zero
  | some x => exact h x (List.mem_of_getElem? e)
theorem BdL.gat {a : Nat} {xs : List Int} (h : BdL a xs) (i : Int) : Bd a (gat xs i) := h.at i.toNat
theorem BdL.nil {a : Nat} : BdL a [] := fun _ h => nomatch h
theorem Bd.of_abs {a : Nat} {x : Int} {n : Nat} (h : x.natAbs ≤ n) (hn : n < 2 ^ a) : Bd a x := Nat.lt_of_le_of_lt h hn

/-! ### sums -/
def plus (xs ys : List Int) : List Int := trim ((List.range (max (xs.length : Int) (ys.length : Int)).toNat).map fun (k : Nat) => gat xs (k : Int) + gat ys (k : Int))
def minus (xs ys : List Int) : List Int := trim ((List.range (max (xs.length : Int) (ys.length : Int)).toNat).map fun (k : Nat) => gat xs (k : Int) - gat ys (k : Int))
def scaled (xs : List Int) (m : Int) : List Int := trim (xs.map fun x => m * x)
theorem plus_len (xs ys : List Int) : (plus xs ys).length ≤ max xs.length ys.length := by
  unfold plus
  refine Nat.le_trans (trim_length_le _) ?_
  rw [List.length_map, List.length_range]; omega
theorem minus_len (xs ys : List Int) : (minus xs ys).length ≤ max xs.length ys.length := by
  unfold minus
  refine Nat.le_trans (trim_length_le _) ?_
  rw [List.length_map, List.length_range]; omega
theorem scaled_len (xs : List Int) (m : Int) : (scaled xs m).length ≤ xs.length := by
  unfold scaled
  refine Nat.le_trans (trim_length_le _) ?_
  rw [List.length_map]; omega
theorem plus_bd {a : Nat} {xs ys : List Int} (hx : BdL a xs) (hy : BdL a ys) : BdL (a + 1) (plus xs ys) := by
  refine BdL.trim fun z hz => ?_
  obtain ⟨k, _, rfl⟩ := List.mem_map.mp hz
  exact (hx.gat _).add (hy.gat _)
theorem minus_bd {a : Nat} {xs ys : List Int} (hx : BdL a xs) (hy : BdL a ys) : BdL (a + 1) (minus xs ys) := by
  refine BdL.trim fun z hz => ?_
  obtain ⟨k, _, rfl⟩ := List.mem_map.mp hz
  exact (hx.gat _).sub (hy.gat _)
theorem scaled_bd {a b : Nat} {xs : List Int} {m : Int} (hx : BdL a xs) (hm : Bd b m) : BdL (b + a) (scaled xs m) := by
  refine BdL.trim fun z hz => ?_
  obtain ⟨k, hk, rfl⟩ := List.mem_map.mp hz
  exact hm.mul (hx k hk)

/-! ### the value -/
def pval : List Int → Int → Int
  | [], _ => 0
  | a :: r, x => a + x * pval r x
theorem pval_append (xs ys : List Int) (x : Int) : pval (xs ++ ys) x = pval xs x + x ^ xs.length * pval ys x := by
  induction xs with
  | nil => simp [pval]
  | cons a r ih =>
    simp only [List.cons_append, pval, ih, List.length_cons, Int.pow_succ]
    rw [Int.mul_add, Int.add_assoc, ← Int.mul_assoc, Int.mul_comm x (x ^ r.length)]
theorem pval_take_succ {ns : List Int} {i : Nat} (h : i < ns.length) (x : Int) : pval (ns.take (i + 1)) x = pval (ns.take i) x + ns.getD i 0 * x ^ i := by
  rw [take_succ_getD h, pval_append, List.length_take, Nat.min_eq_left (Nat.le_of_lt h)]
  simp only [pval, Int.mul_zero, Int.add_zero]
  rw [Int.mul_comm (x ^ i)]
theorem drop_pred_getD {ns : List Int} {i : Nat} (h : i < ns.length) : ns.drop (ns.length - (i + 1)) = ns.reverse.getD i 0 :: ns.drop (ns.length - i) := by
  have hb : ns.length - 1 - i < ns.length := by omega
  rw [List.drop_eq_getElem_cons (by omega : ns.length - (i + 1) < ns.length), List.getD_eq_getElem?_getD, List.getElem?_reverse h, List.getElem?_eq_getElem hb]
  have e1 : ns.length - (i + 1) + 1 = ns.length - i := by omega
  have e2 : ns.length - (i + 1) = ns.length - 1 - i := by omega
  rw [e1]
  simp only [Option.getD_some, e2]
theorem pval_bd {a b : Nat} {x : Int} (hx : Bd b x) : ∀ {ns : List Int}, BdL a ns → Bd (a + (b + 1) * ns.length) (pval ns x)
  | [], _ => Bd.zero
  | n :: r, h => by
    have ih := pval_bd hx (ns := r) fun y hy => h y (List.mem_cons_of_mem _ hy)
    have h1 : Bd a n := h n List.mem_cons_self
    have h2 := hx.mul ih
    have h3 := (h1.mono (b := b + (a + (b + 1) * r.length)) (by omega)).add h2
    refine h3.mono ?_
    rw [List.length_cons, Nat.mul_succ]
    omega
theorem Bd.pow {b : Nat} {x : Int} (hx : Bd b x) : ∀ n : Nat, Bd (b * n + 1) (x ^ n)
  | 0 => by unfold Bd; simp
  | n + 1 => by
    rw [Int.pow_succ]
    exact ((Bd.pow hx n).mul hx).mono (by rw [Nat.mul_succ]; omega)
end Pa
namespace Pa
/-! ### loops -/
def lp {α : Type} (f : Nat → α → α) : Nat → α → α
  | 0, s => s
  | n + 1, s => f n (lp f n s)
theorem lp_inv {α : Type} {f : Nat → α → α} {s : α} (p : Nat → α → Prop) (h0 : p 0 s) : ∀ n : Nat, (∀ i a, i < n → p i a → p (i + 1) (f i a)) → p n (lp f n s)
  | 0, _ => h0
  | n + 1, hs => hs n _ (Nat.lt_succ_self n) (lp_inv p h0 n fun i a hi => hs i a (Nat.lt_succ_of_lt hi))

/-! ### products -/
/-- one number's turn -/
def tmIn (x : Int) (ys : List Int) (j k : Nat) (acc : List Int) : List Int := acc.set (j + k) (acc.getD (j + k) 0 + x * ys.getD k 0)
def tmRow (xs ys : List Int) (j : Nat) (acc : List Int) : List Int := lp (tmIn (xs.getD j 0) ys j) ys.length acc
def tmRaw (xs ys : List Int) : List Int := lp (tmRow xs ys) xs.length (List.replicate (xs.length + ys.length) 0)
def tm (xs ys : List Int) : List Int := trim (tmRaw xs ys)
theorem tmIn_len (x : Int) (ys : List Int) (j k : Nat) (acc : List Int) : (tmIn x ys j k acc).length = acc.length := List.length_set
theorem lp_len {f : Nat → List Int → List Int} (h : ∀ i a, (f i a).length = a.length) : ∀ (n : Nat) (s : List Int), (lp f n s).length = s.length
  | 0, _ => rfl
  | n + 1, s => (h n _).trans (lp_len h n s)
theorem tmRow_len (xs ys : List Int) (j : Nat) (acc : List Int) : (tmRow xs ys j acc).length = acc.length := lp_len (fun i a => tmIn_len _ _ _ _ _) _ _
theorem tmRaw_len (xs ys : List Int) : (tmRaw xs ys).length = xs.length + ys.length := by
  unfold tmRaw
  rw [lp_len (fun i a => tmRow_len _ _ _ _), List.length_replicate]
theorem getD_set (l : List Int) (i j : Nat) (x : Int) : (l.set i x).getD j 0 = if i = j then (if i < l.length then x else 0) else l.getD j 0 := by
  rw [List.getD_eq_getElem?_getD, List.getD_eq_getElem?_getD, List.getElem?_set]
  split
  · rename_i h
    subst h
    split
    · rfl
    · rfl
  · rfl
theorem getD_replicate (n j : Nat) : (List.replicate n (0 : Int)).getD j 0 = 0 := by
  rw [List.getD_eq_getElem?_getD, List.getElem?_replicate]
  split <;> rfl
theorem tmIn_getD (x : Int) (ys : List Int) (j k : Nat) (acc : List Int) (i : Nat) : (tmIn x ys j k acc).getD i 0 = if j + k = i then (if j + k < acc.length then acc.getD (j + k) 0 + x * ys.getD k 0 else 0) else acc.getD i 0 := getD_set _ _ _ _
/-- how great a product's numbers are -/
theorem tm_bd {a b c : Nat} {xs ys : List Int} (hx : BdL a xs) (hy : BdL b ys) (hl : xs.length ≤ 2 ^ c) : BdL (a + b + c) (tm xs ys) := by
  refine BdL.trim ?_
  have key : ∀ i, (tmRaw xs ys).getD i 0 = 0 ∨ ((tmRaw xs ys).getD i 0).natAbs < xs.length * 2 ^ (a + b) := by
    unfold tmRaw
    refine lp_inv (fun n (acc : List Int) => ∀ i, acc.getD i 0 = 0 ∨ (acc.getD i 0).natAbs < n * 2 ^ (a + b)) (fun i => .inl (getD_replicate _ _)) xs.length fun j acc hj hacc => ?_
    unfold tmRow
    have in1 : ∀ i, ((lp (tmIn (xs.getD j 0) ys j) ys.length acc).getD i 0 = acc.getD i 0) ∨ (((lp (tmIn (xs.getD j 0) ys j) ys.length acc).getD i 0).natAbs < (acc.getD i 0).natAbs + 2 ^ (a + b)) := by
      have in2 : ∀ n, ∀ i, (i < j + n → ((lp (tmIn (xs.getD j 0) ys j) n acc).getD i 0 = acc.getD i 0) ∨ (((lp (tmIn (xs.getD j 0) ys j) n acc).getD i 0).natAbs < (acc.getD i 0).natAbs + 2 ^ (a + b))) ∧
          (j + n ≤ i → (lp (tmIn (xs.getD j 0) ys j) n acc).getD i 0 = acc.getD i 0) := by
        intro n
        induction n with
        | zero => exact fun i => ⟨fun _ => .inl rfl, fun _ => rfl⟩
        | succ n ih =>
          intro i
          show (_ → (tmIn _ _ _ _ _).getD i 0 = _ ∨ ((tmIn _ _ _ _ _).getD i 0).natAbs < _) ∧ (_ → (tmIn _ _ _ _ _).getD i 0 = _)
          rw [tmIn_getD]
          by_cases hi : j + n = i
          · subst hi
            rw [if_pos rfl]
            refine ⟨fun _ => ?_, fun h => by omega⟩
            have e := (ih (j + n)).2 (Nat.le_refl _)
            by_cases hlt : j + n < (lp (tmIn (xs.getD j 0) ys j) n acc).length
            · rw [if_pos hlt, e]
              right
              have h1 := (hx.at j).mul (hy.at n)
              unfold Bd at h1
              have h2 := Int.natAbs_add_le (acc.getD (j + n) 0) (xs.getD j 0 * ys.getD n 0)
              omega
            · rw [if_neg hlt]
              left
              rw [← e, List.getD_eq_getElem?_getD, List.getElem?_eq_none (by omega)]; rfl
          · rw [if_neg hi]
            exact ⟨fun h => (ih i).1 (by omega), fun h => (ih i).2 (by omega)⟩
      intro i
      by_cases h : i < j + ys.length
      · exact (in2 ys.length i).1 h
      · exact .inl ((in2 ys.length i).2 (by omega))
    intro i
    have hpos : 0 < 2 ^ (a + b) := Nat.two_pow_pos _
    have hsucc : (j + 1) * 2 ^ (a + b) = j * 2 ^ (a + b) + 2 ^ (a + b) := Nat.succ_mul _ _
    rcases in1 i with e | h
    · rw [e]
      rcases hacc i with h0 | h0
      · exact .inl h0
      · exact .inr (by omega)
    · right
      rcases hacc i with h0 | h0
      · rw [h0] at h
        simp only [Int.natAbs_zero] at h
        have : 0 ≤ j * 2 ^ (a + b) := Nat.zero_le _
        omega
      · omega
  intro x hx'
  obtain ⟨i, hi, rfl⟩ := List.getElem_of_mem hx'
  have e : (tmRaw xs ys)[i] = (tmRaw xs ys).getD i 0 := by
    rw [List.getD_eq_getElem?_getD, List.getElem?_eq_getElem hi]; rfl
  rw [e]
  rcases key i with h | h
  · rw [h]; exact Nat.two_pow_pos _
  · refine Nat.lt_of_lt_of_le h ?_
    rw [Nat.pow_add 2 (a + b) c, Nat.mul_comm]
    exact Nat.mul_le_mul_left _ hl
/-- the topmost place stays nought -/
theorem tmRaw_top (xs ys : List Int) (i : Nat) (h : xs.length + ys.length ≤ i + 1) : (tmRaw xs ys).getD i 0 = 0 := by
  unfold tmRaw
  refine lp_inv (fun _ (acc : List Int) => acc.getD i 0 = 0) (getD_replicate _ _) xs.length fun j acc hj hacc => ?_
  unfold tmRow
  refine lp_inv (fun _ (a : List Int) => a.getD i 0 = 0) hacc ys.length fun k a hk ha => ?_
  rw [tmIn_getD, if_neg (by omega)]
  exact ha
theorem trim_len_le {xs : List Int} {n : Nat} (h : ∀ i, n ≤ i → xs.getD i 0 = 0) : (trim xs).length ≤ n := by
  obtain ⟨k, e, c | ⟨ys, y, c, hy⟩⟩ := trim_cases xs
  · rw [c]; exact Nat.zero_le _
  · refine Nat.le_of_not_lt fun hlt => hy ?_
    have hz := h ys.length (by rw [c] at hlt; simp at hlt; omega)
    rw [e, c, List.getD_eq_getElem?_getD] at hz
    simpa using hz
theorem tm_len (xs ys : List Int) : (tm xs ys).length ≤ xs.length + ys.length - 1 := trim_len_le fun i hi => tmRaw_top xs ys i (by omega)
theorem tm_nil_right (xs : List Int) : tm xs [] = [] := by
  have h := trim_len_le (xs := tmRaw xs []) (n := 0) fun i _ => by
    unfold tmRaw
    refine lp_inv (fun _ (acc : List Int) => acc.getD i 0 = 0) (getD_replicate _ _) xs.length fun j acc hj hacc => hacc
  exact List.length_eq_zero_iff.mp (Nat.le_zero.mp h)
theorem tm_tr (xs ys : List Int) : Tr (tm xs ys) := tr_trim _

/-! ### powers -/
def pw (xs : List Int) : Nat → List Int
  | 0 => [1]
  | n + 1 => tm (pw xs n) xs
theorem pw_len (xs : List Int) : ∀ n : Nat, (pw xs n).length ≤ 1 + n * (xs.length - 1)
  | 0 => by simp [pw]
  | n + 1 => by
    have ih := pw_len xs n
    show (tm (pw xs n) xs).length ≤ _
    cases xs with
    | nil => rw [tm_nil_right]; exact Nat.zero_le _
    | cons x r =>
      have h := tm_len (pw (x :: r) n) (x :: r)
      simp only [List.length_cons, Nat.add_sub_cancel] at h ih ⊢
      rw [Nat.succ_mul]
      omega
theorem pw_bd {b c : Nat} {xs : List Int} (hx : BdL b xs) : ∀ n : Nat, (∀ i, i < n → (pw xs i).length ≤ 2 ^ c) → BdL (1 + n * (b + c)) (pw xs n)
  | 0, _ => fun x hx => by
    have : x = 1 := by simpa [pw] using hx
    subst this
    rw [Nat.zero_mul]; decide
  | n + 1, h => by
    have ih := pw_bd hx n fun i hi => h i (Nat.lt_succ_of_lt hi)
    refine (tm_bd ih hx (h n (Nat.lt_succ_self n))).mono ?_
    rw [Nat.succ_mul]; omega
end Pa

namespace Pa
open PySem PySem.Spec PyProof.Rows L2

abbrev veT : List Value := [.type "ValueError", .type "Exception", .type "BaseException", .type "object"]
/-- what the top says of an error's class -/
structure Err (K : PySem.W.Frag) (mg : Str → Option Value) (x : Str) (C : Addr) : Prop where
  g : mg x = some (.ref C)
  x : PySem.W.excIn K C veT "ValueError.__new__" = true
  k : PySem.W.keepIn K (.ref C) = true
  b : PySem.W.subIn K (.ref C) (.type "BaseException") = some true
  t : PySem.W.typeIn K (.ref C) = some (.type "type")
  h : PySem.W.hasDictIn K C = true
  i : ExcC K C
  v : PySem.W.kitOne K (.ref C) (.type "ValueError") = some true

theorem kit_ve {K : PySem.W.Frag} {C : Addr} (h : PySem.W.subIn K (.ref C) (.type "ValueError") = some true) : PySem.W.kitOne K (.ref C) (.type "ValueError") = some true := by
  have m : PySem.W.kitMeta "ValueError" = true := by decide +kernel
  unfold PySem.W.kitOne
  rw [if_neg (by intro z; exact nomatch (beq_iff_eq.mp z))]
  show (if PySem.W.kitMeta "ValueError" = true then PySem.W.subIn K (.ref C) (.type "ValueError") else none) = some true
  rw [if_pos m]
  exact h
/-! ### an exception's way -/
/-- a wish of an exception, over the owned objects -/
def NX (Wx : WX) (cls : Value) (d : Option Addr) (σ : St) (H0 : Hp) (fs : Fs) : Prop := ∀ H, Kn H0 fs H → Wx cls d σ H
def NE (E : XK) (cls : Value) (d : Option Addr) (H0 : Hp) (fs : Fs) : Prop := ∀ H, Kn H0 fs H → E cls d H
/-- a call that raises for certain -/
def WCX (sp : Sp) (vs : List V) (H0 : Hp) (fs : Fs) (Ψ : Value → Option Addr → Fs → Prop) : Prop := ∀ H, Kn H0 fs H → ∀ (Q : VK) (E : XK), (∀ cls d f' H', Kn H0 f' H' → Ψ cls d f' → E cls d H') → sp vs H Q E
/-- one that may raise -/
def WCB (sp : Sp) (vs : List V) (H0 : Hp) (fs : Fs) (Φ : CV) (Ψ : Value → Option Addr → Fs → Prop) : Prop := ∀ H, Kn H0 fs H → ∀ (Q : VK) (E : XK), (∀ v fs' H', Kn H0 fs' H' → Φ v fs' → Q v H') → (∀ cls d f' H', Kn H0 f' H' → Ψ cls d f' → E cls d H') → sp vs H Q E
section
variable {σ : St} {H0 : Hp} {fs : Fs} {Φ : CV} {tr : TA} {Wx : WX} {K : PySem.W.Frag} {c cls : Value} {d : Option Addr} {D : Ends} {ts : Addr → Value → Option Addr → TS} {Wout : WX} {i : Nat}
theorem W.callX {sp : Sp} (h : WA tr σ H0 fs fun vs f1 => WCX sp vs H0 f1 fun cls d f2 => NX Wx cls d σ H0 f2) : W (tCallS sp (WE Wx) tr) σ H0 fs Φ := fun H k Q _ =>
  h H k _ fun vs _ H1 k1 h1 => h1 H1 k1 Q _ fun cls d _ H2 k2 n => n H2 k2
theorem W.callB {sp : Sp} (h : WA tr σ H0 fs fun vs f1 => WCB sp vs H0 f1 Φ fun cls d f2 => NX Wx cls d σ H0 f2) : W (tCallS sp (WE Wx) tr) σ H0 fs Φ := fun H k Q cc =>
  h H k _ fun vs _ H1 k1 h1 => h1 H1 k1 Q _ cc fun cls d _ H2 k2 n => n H2 k2
theorem NX.only (hb : PySem.W.exmOne K cls c = some true) (h : ∀ a, N (ts a cls d D) σ H0 fs) : NX (wOnly K c ts Wout D) cls d σ H0 fs := fun H k => ⟨true, hb, fun _ a _ => h a H k, fun z => Bool.noConfusion z⟩
theorem NX.onlyF (hb : PySem.W.exmOne K cls c = some false) (h : NX Wout cls d σ H0 fs) : NX (wOnly K c ts Wout D) cls d σ H0 fs := fun H k => ⟨false, hb, fun z => Bool.noConfusion z, fun _ => h H k⟩
theorem NX.as (hb : PySem.W.exmOne K cls c = some true) (h : ∀ a, N (ts a cls d { nx := fun σ' H' => D.nx (σ'.set i none) H', rt := D.rt, bk := fun σ' H' => D.bk (σ'.set i none) H', ct := fun σ' H' => D.ct (σ'.set i none) H' }) (σ.set i (some (.ref a))) H0 fs) :
    NX (wAs K c i ts Wout D) cls d σ H0 fs := fun H k => ⟨true, hb, fun _ a _ => h a H k, fun z => Bool.noConfusion z⟩
theorem NX.many (hb : PySem.W.exmOne K cls c = some true) {r : List (Value × (Addr → Value → Option Addr → TS))} (h : ∀ a, N (ts a cls d D) σ H0 fs) : NX (wMany K Wout D ((c, ts) :: r)) cls d σ H0 fs := fun H k => ⟨true, hb, fun _ a _ => h a H k, fun z => Bool.noConfusion z⟩
theorem NX.manyF (hb : PySem.W.exmOne K cls c = some false) {r : List (Value × (Addr → Value → Option Addr → TS))} (h : NX (wMany K Wout D r) cls d σ H0 fs) : NX (wMany K Wout D ((c, ts) :: r)) cls d σ H0 fs := fun H k => ⟨false, hb, fun z => Bool.noConfusion z, fun _ => h H k⟩
end
/-- isinstance(e, T) of the error that the suite holds -/
def rIsV (K : PySem.W.Frag) (a : Addr) (cls : Value) (d : Option Addr) : List V → Hp → VK → Prop := fun xs H Q => ∃ D, cls = .ref D ∧ d = none ∧ ExcC K D ∧ rIsE K D a xs H Q
theorem call_isV {X : Cx} {a : Addr} {cls : Value} {d : Option Addr} {oe : Obj} {pn : List (Addr × Obj)} (hz : Zc cls d oe) (hf : ∃ vs, oe.data = .fields vs) : CallR (X.suite a ((a, oe) :: pn)) (.builtin "isinstance") (rIsV X.K a cls d) := by
  intro pins s σ H xs us Q I r h
  obtain ⟨D, e1, e2, C, h⟩ := h
  subst e1 e2
  exact call_isE C hz hf pins s σ H xs us Q I r h
theorem RC.isV {K : PySem.W.Frag} {H0 : Hp} {fs : Fs} {Φ : CV} {a D : Addr} {n : String} {b : Bool} (C : ExcC K D) (hk : PySem.W.kitOne K (.ref D) (.type n) = some b) (q : Φ (.bl b) fs) : RC (rIsV K a (.ref D) none) [.ref a, .ty n] H0 fs Φ := fun H k Q c =>
  ⟨D, rfl, rfl, C, .ty n, .type n, b, rfl, fun u r => r, hk, c _ fs H k q⟩
theorem call_isVK {X : Cx} {K : PySem.W.Frag} {a : Addr} {cls : Value} {d : Option Addr} {oe : Obj} {pn : List (Addr × Obj)} (hK : X.K = K) (hz : Zc cls d oe) (hf : ∃ vs, oe.data = .fields vs) : CallR (X.suite a ((a, oe) :: pn)) (.builtin "isinstance") (rIsV K a cls d) := by
  subst hK
  exact call_isV hz hf
section
variable {X : Cx} {K : PySem.W.Frag} {x n : Str} {c : Value} {i : Nat} {body suite : List Stmt} {b₀ : Stmt} {np pos pos' : Pos} {tb : WX → TS} {ts : Addr → Value → Option Addr → TS} {Wout : WX}
theorem ps_try_asK (hK : X.K = K) (hs : X.stack = X.env :: X.outer) (hf : X.env.frame = some X.env.locals) (hN : X.N.Nodup) (hi : X.N[i]? = some n) (hln : X.env.kindOf n = some .local) (hc : Names X x c) (tk : Takes X Wout)
    (hb : ∀ (W : WX) (pn : List (Addr × Obj)) (xe : Value → Shared → Prop), Takes (X.tr pn xe) W → PassesOwn (model X.prog X.w) X.A X.env xe → PSs (X.tr pn xe) body (tb W))
    (hsu : ∀ (a : Addr) (oe : Obj) (cls : Value) (d : Option Addr) (pn : List (Addr × Obj)), Zc cls d oe → (∃ vs, oe.data = .fields vs) → PSs (X.suite a ((a, oe) :: pn)) (b₀ :: suite) (ts a cls d)) :
    PS X (.Try body [.ExceptHandler (some (.Name x np)) (some n) (b₀ :: suite) pos'] [] [] pos) (fun D σ H => tb (wAs K c i ts Wout D) D σ H) := by
  subst hK
  exact ps_try_as hs hf hN hi hln hc tk hb hsu
theorem ps_try_onlyK (hK : X.K = K) (hs : X.stack = X.env :: X.outer) (hf : X.env.frame = some X.env.locals) (hc : Names X x c) (tk : Takes X Wout)
    (hb : ∀ (W : WX) (pn : List (Addr × Obj)) (xe : Value → Shared → Prop), Takes (X.tr pn xe) W → PassesOwn (model X.prog X.w) X.A X.env xe → PSs (X.tr pn xe) body (tb W))
    (hsu : ∀ (a : Addr) (oe : Obj) (cls : Value) (d : Option Addr) (pn : List (Addr × Obj)), Zc cls d oe → (∃ vs, oe.data = .fields vs) → PSs (X.suite a ((a, oe) :: pn)) (b₀ :: suite) (ts a cls d)) :
    PS X (.Try body [.ExceptHandler (some (.Name x np)) none (b₀ :: suite) pos'] [] [] pos) (fun D σ H => tb (wOnly K c ts Wout D) D σ H) := by
  subst hK
  exact ps_try_only hs hf hc tk hb hsu
theorem ps_try_manyK {h₀ : ExceptHandler} {hds : List ExceptHandler} {l : List (Value × (Addr → Value → Option Addr → TS))} (hK : X.K = K) (hs : X.stack = X.env :: X.outer) (hf : X.env.frame = some X.env.locals) (tk : Takes X Wout)
    (hb : ∀ (W : WX) (pn : List (Addr × Obj)) (xe : Value → Shared → Prop), Takes (X.tr pn xe) W → PassesOwn (model X.prog X.w) X.A X.env xe → PSs (X.tr pn xe) body (tb W))
    (hh : HdsOk X (h₀ :: hds) l) : PS X (.Try body (h₀ :: hds) [] [] pos) (fun D σ H => tb (wMany K Wout D l) D σ H) := by
  subst hK
  exact ps_try_many hs hf tk hb hh
end
/-- two promises of one def -/
theorem FnOk.both {P : Program} {w : World} {K : PySem.W.Frag} {mg : Str → Option Value} {base : Heap} {k k' : Nat} {f : Addr} {fd : FuncData} {ps : List Str} {sp1 sp2 : Sp}
    (F1 : FnOk P w K mg base CX0 k f fd ps sp1) (F2 : FnOk P w K mg base (L2.CX P w) k' f fd ps sp2) : FnOk P w K mg base (L2.CX P w) (max k k') f fd ps (fun vs H Q E => sp1 vs H Q E ∨ sp2 vs H Q E) :=
  ⟨fun vs H Q E h => h.elim (F1.len vs H Q E) (F2.len vs H Q E), fun A outer s H args us vs Q E hr he hb hv hs => by
    rcases hs with hs | hs
    · refine codeAny_mono ((F1.mono (Nat.le_max_left k k')).run A outer s H args us vs Q E hr he hb hv hs) fun r s' h => ?_
      cases r with
      | error e => exact False.elim h
      | ok fl => cases fl <;> exact h
    · exact (F2.mono (Nat.le_max_right k k')).run A outer s H args us vs Q E hr he hb hv hs⟩
/-- one that never raises, among those that may -/
theorem FnOk.up {P : Program} {w : World} {K : PySem.W.Frag} {mg : Str → Option Value} {base : Heap} {k : Nat} {f : Addr} {fd : FuncData} {ps : List Str} {sp1 : Sp}
    (F1 : FnOk P w K mg base CX0 k f fd ps sp1) : FnOk P w K mg base (L2.CX P w) k f fd ps sp1 :=
  ⟨F1.len, fun A outer s H args us vs Q E hr he hb hv hs => codeAny_mono (F1.run A outer s H args us vs Q E hr he hb hv hs) fun r s' h => by
    cases r with
    | error e => exact False.elim h
    | ok fl => cases fl <;> exact h⟩
/-- a block that begins with an if and is left in it -/
theorem S.never {D : Ends} {σ : St} {H0 : Hp} {fs : Fs} (h : False) : N (tNever D) σ H0 fs := h.elim
section
variable {P : Program} {w : World} {K : PySem.W.Frag} {mg : Str → Option Value} {base : Heap}
theorem passesX {N : List Str} {qual : Str} {scope : Scope} {f : Addr} {cd : Value} {A : Around} {outer : List Env} {s : Shared} {H : Hp} {E : XK} :
    PassesOwn (model P w) (cxOf (L2.CX P w) P w K mg base N qual scope f cd A outer s H E).A (cxOf (L2.CX P w) P w K mg base N qual scope f cd A outer s H E).env (cxOf (L2.CX P w) P w K mg base N qual scope f cd A outer s H E).xe :=
  passes_of (X := cxOf (L2.CX P w) P w K mg base N qual scope f cd A outer s H E) (K := fun e s' => L2.CX P w outer H s E e s') (E₁ := fun e' s'' => L2.CX P w outer H s E e' s'') rfl
end
end Pa

namespace Pa
open PySem PySem.Spec PyProof.Rows L2

/-! ### data -/
def zD (ns : List Int) : PyData := .list (ns.map .int)
theorem zD_layAll : ∀ ns : List Int, PyData.canLayAll0 (ns.map PyData.int) = true
  | [] => rfl
  | n :: r => by
    show (PyData.canLay0 (.int n) && PyData.canLayAll0 (r.map PyData.int)) = true
    rw [zD_layAll r]; rfl
theorem zD_depthAll : ∀ ns : List Int, PyData.depthAll (ns.map PyData.int) = 0
  | [] => rfl
  | n :: r => by
    show max (PyData.depth (.int n)) (PyData.depthAll (r.map PyData.int)) = 0
    rw [zD_depthAll r]; rfl
theorem zD_lay (ns : List Int) : PyData.canLay0 (zD ns) = true := by
  show PyData.canLayAll0 (ns.map PyData.int) = true
  exact zD_layAll ns
theorem zD_depth (ns : List Int) : PyData.depth (zD ns) = 1 := by
  show PyData.depthAll (ns.map PyData.int) + 1 = 1
  rw [zD_depthAll]
theorem zD_shaped (ns : List Int) : SeqAt.shaped (zD ns) = true := by
  unfold SeqAt.shaped
  rw [zD_lay, zD_depth]; rfl
theorem zD_eqvAll : ∀ xs ys : List Int, PyData.eqvAll (xs.map PyData.int) (ys.map PyData.int) = decide (xs = ys)
  | [], [] => rfl
  | [], y :: ys => rfl
  | x :: xs, [] => rfl
  | x :: xs, y :: ys => by
    show (PyData.eqv (.int x) (.int y) && PyData.eqvAll (xs.map PyData.int) (ys.map PyData.int)) = _
    rw [zD_eqvAll xs ys]
    show ((x == y) && decide (xs = ys)) = _
    rw [Bool.eq_iff_iff]
    simp
theorem zD_eqv (xs ys : List Int) : PyData.eqv (zD xs) (zD ys) = decide (xs = ys) := zD_eqvAll xs ys
theorem zD_dp {K : PySem.W.Frag} {H : Hp} : ∀ ns : List Int, DpAll K H (zV ns) (ns.map PyData.int)
  | [] => .nil
  | n :: r => .cons (.int n) (zD_dp r)
/-- what stands at a value, as data -/
def Rd (K : PySem.W.Frag) (H0 : Hp) (fs : Fs) (v : V) (d : PyData) : Prop := ∀ H, Kn H0 fs H → Dp K H v d
def RdA (K : PySem.W.Frag) (H0 : Hp) (fs : Fs) (vs : List V) (ds : List PyData) : Prop := ∀ H, Kn H0 fs H → DpAll K H vs ds
section
variable {K : PySem.W.Frag} {H0 : Hp} {fs : Fs} {Φ : CV} {x y : V}
theorem Rd.z {a : Addr} {ns : List Int} (h : Rl K H0 fs a (zV ns)) : Rd K H0 fs (.ref a) (zD ns) := fun H k => .lst (h H k) (zD_dp ns)
theorem Rd.int {i : Int} : Rd K H0 fs (.int i) (.int i) := fun _ _ => .int i
theorem Rd.lst {a : Addr} {vs : List V} {ds : List PyData} (h : Rl K H0 fs a vs) (hd : RdA K H0 fs vs ds) : Rd K H0 fs (.ref a) (.list ds) := fun H k => .lst (h H k) (hd H k)
theorem Rd.tup {a : Addr} {vs : List V} {ds : List PyData} (h : Rt K H0 fs a vs) (hd : RdA K H0 fs vs ds) : Rd K H0 fs (.ref a) (.tuple ds) := fun H k => .tup (h H k) (hd H k)
theorem RdA.nil : RdA K H0 fs [] [] := fun _ _ => .nil
theorem RdA.cons {v : V} {vs : List V} {d : PyData} {ds : List PyData} (h : Rd K H0 fs v d) (hr : RdA K H0 fs vs ds) : RdA K H0 fs (v :: vs) (d :: ds) := fun H k => .cons (h H k) (hr H k)
theorem RW.eqD {d e : PyData} (h : Rd K H0 fs x d) (h2 : Rd K H0 fs y e) (s1 : SeqAt.shaped d = true) (s2 : SeqAt.shaped e = true) (q : Φ (.bl (PyData.eqv d e)) fs) : RW (rEqD K) x y H0 fs Φ := fun H k _ c => ⟨d, e, h H k, h2 H k, s1, s2, c _ fs H k q⟩
theorem RW.neD {d e : PyData} (h : Rd K H0 fs x d) (h2 : Rd K H0 fs y e) (s1 : SeqAt.shaped d = true) (s2 : SeqAt.shaped e = true) (q : Φ (.bl (!PyData.eqv d e)) fs) : RW (rNeD K) x y H0 fs Φ := fun H k _ c => ⟨d, e, h H k, h2 H k, s1, s2, c _ fs H k q⟩
theorem RW.eqZ {a b : Addr} {xs ys : List Int} (h : Rl K H0 fs a (zV xs)) (h2 : Rl K H0 fs b (zV ys)) (q : Φ (.bl (decide (xs = ys))) fs) : RW (rEqD K) (.ref a) (.ref b) H0 fs Φ :=
  RW.eqD (Rd.z h) (Rd.z h2) (zD_shaped _) (zD_shaped _) (by rw [zD_eqv]; exact q)
theorem RW.neZ {a b : Addr} {xs ys : List Int} (h : Rl K H0 fs a (zV xs)) (h2 : Rl K H0 fs b (zV ys)) (q : Φ (.bl (!decide (xs = ys))) fs) : RW (rNeD K) (.ref a) (.ref b) H0 fs Φ :=
  RW.neD (Rd.z h) (Rd.z h2) (zD_shaped _) (zD_shaped _) (by rw [zD_eqv]; exact q)
end
/-- x in a written tuple -/
def rInT (K : PySem.W.Frag) : R2 := fun x y H Q => ∃ d ds, Dp K H x d ∧ Dp K H y (.tuple ds) ∧ SeqAt.shaped d = true ∧ SeqAt.shaped (.tuple ds) = true ∧ Q (.bl (ds.any fun z => PyData.eqv z d)) H
theorem op_inT {X : Cx} {k : Nat} (hr : Room k X.A) : OpR X (compareOp .In) (rInT X.K) := by
  intro pins s σ H x y v u Q I rx ry h
  obtain ⟨d, ds, hd, he, sd, se, q⟩ := h
  obtain ⟨as, r1⟩ := Dp.reads I d x v hd rx
  obtain ⟨bs, r2⟩ := Dp.reads I (.tuple ds) y u he ry
  exact SeqAt.in_tuple_reads r2 r1 (SeqAt.canLay_of_shaped se) (SeqAt.canLay_of_shaped sd) (room_in_shaped sd (by have := hr.un; omega)) ⟨.bl _, H, I, rfl, q⟩
theorem op_inDr {X : Cx} {k : Nat} (hr : Room k X.A) : OpR X (compareOp .In) (rInD X.K) := op_inD (by have := hr.un; omega)
theorem op_notInDr {X : Cx} {k : Nat} (hr : Room k X.A) : OpR X (compareOp .NotIn) (rNotInD X.K) := op_notInD (by have := hr.un; omega)
section
variable {K : PySem.W.Frag} {H0 : Hp} {fs : Fs} {Φ : CV} {x y : V}
theorem RW.inT {d : PyData} {ds : List PyData} (h : Rd K H0 fs x d) (h2 : Rd K H0 fs y (.tuple ds)) (s1 : SeqAt.shaped d = true) (s2 : SeqAt.shaped (.tuple ds) = true) (q : Φ (.bl (ds.any fun z => PyData.eqv z d)) fs) : RW (rInT K) x y H0 fs Φ :=
  fun H k _ c => ⟨d, ds, h H k, h2 H k, s1, s2, c _ fs H k q⟩
theorem RW.inD {d : PyData} {ds : List PyData} (h : Rd K H0 fs x d) (h2 : Rd K H0 fs y (.list ds)) (s1 : SeqAt.shaped d = true) (s2 : SeqAt.shaped (.list ds) = true) (q : Φ (.bl (ds.any fun z => PyData.eqv z d)) fs) : RW (rInD K) x y H0 fs Φ :=
  fun H k _ c => ⟨d, ds, h H k, h2 H k, s1, s2, c _ fs H k q⟩
theorem RW.notInD {d : PyData} {ds : List PyData} (h : Rd K H0 fs x d) (h2 : Rd K H0 fs y (.list ds)) (s1 : SeqAt.shaped d = true) (s2 : SeqAt.shaped (.list ds) = true) (q : Φ (.bl (!ds.any fun z => PyData.eqv z d)) fs) : RW (rNotInD K) x y H0 fs Φ :=
  fun H k _ c => ⟨d, ds, h H k, h2 H k, s1, s2, c _ fs H k q⟩
/-- written lists of ints -/
theorem W.lst0 {σ : St} (h : ∀ p, Φ (.ref p) ((p, .lst (zV [])) :: fs)) : W (tLst tNil) σ H0 fs Φ := W.lst (WA.nil ⟨by simp, h⟩)
theorem W.lst1 {σ : St} {ta : TE} (h : W ta σ H0 fs fun x f1 => ∃ a, x = .int a ∧ ∀ p, Φ (.ref p) ((p, .lst (zV [a])) :: f1)) : W (tLst (tCons ta tNil)) σ H0 fs Φ := fun H k Q c =>
  h H k _ fun x f1 H1 k1 ⟨a, e, q⟩ => by
    subst e
    exact ⟨sz_le (by simp), fun p hp => c _ _ _ (k1.new hp) (q p)⟩
end

/-! ### for x in a list or a tuple -/
def iSeq (K : PySem.W.Frag) (tl : TE) : TI := fun σ H R => iList K tl σ H R ∨ iTup K tl σ H R
theorem pi_seq {X : Cx} {tg l : Expr} {tl : TE} (hl : PE X l tl) : PI X tg l (iSeq X.K tl) :=
  ⟨fun pins s σ H R I h => h.elim (fun h => (pi_list hl).run pins s σ H R I h) fun h => (pi_tup hl).run pins s σ H R I h⟩
section
variable {σ : St} {H0 : Hp} {fs : Fs} {te : TE} {D : Ends} {ts : TS} {K : PySem.W.Frag}
theorem S.forQ {a : Addr} {xs : List V} {g : TG} (hq : SqL K H0 a xs ∨ SqT K H0 a xs) (I : Nat → St → Fs → Prop)
    (h : ∀ Φ : CV, Φ (.ref a) fs → W te σ H0 fs Φ) (h0 : I 0 σ fs)
    (hs : ∀ (i : Nat) x σ' f', xs[i]? = some x → I i σ' f' → ∀ H, Kn H0 f' H → g x σ' H fun σ2 H2 => ts { D with nx := Lp H0 I (i + 1), ct := Lp H0 I (i + 1), bk := D.nx } σ2 H2)
    (hd : ∀ σ' f', I xs.length σ' f' → N D.nx σ' H0 f') : N (tFor (iSeq K te) g ts D) σ H0 fs := fun H k => by
  rcases hq with hq | hq
  · refine .inl (h (fun v f1 => v = .ref a ∧ f1 = fs) ⟨rfl, rfl⟩ H k _ fun v f1 H1 k1 ⟨e, ef⟩ => ?_)
    subst ef
    refine ⟨a, e, ⟨xs, k1.same.seq hq⟩, for_list (K := K) (a := a) (xs := xs) (Lp H0 I) ⟨f1, k1, h0⟩ (fun i σ' H' _ p => ?_) (fun i x σ' H' hx p => ?_) (fun σ' H' p => ?_)⟩
    · obtain ⟨f', k', p⟩ := p.ex
      exact k'.same.seq hq
    · obtain ⟨f', k', p⟩ := p.ex
      exact hs i x σ' f' hx p H' k'
    · obtain ⟨f', k', p⟩ := p.ex
      exact hd σ' f' p H' k'
  · have st : ∀ {H' : Hp}, Same H0 H' → SqT K H' a xs := fun {H'} s => by
      rcases hq with (hq | ⟨o, hq⟩) | hq
      · exact .inl (.inl (s _ _ hq))
      · exact .inl (.inr ⟨o, s _ _ hq⟩)
      · exact .inr hq
    refine .inr (h (fun v f1 => v = .ref a ∧ f1 = fs) ⟨rfl, rfl⟩ H k _ fun v f1 H1 k1 ⟨e, ef⟩ => ?_)
    subst ef
    refine ⟨a, e, ⟨xs, st k1.same⟩, for_tup (K := K) (a := a) (xs := xs) (Lp H0 I) ⟨f1, k1, h0⟩ (fun i σ' H' _ p => ?_) (fun i x σ' H' hx p => ?_) (fun σ' H' p => ?_)⟩
    · obtain ⟨f', k', p⟩ := p.ex
      exact st k'.same
    · obtain ⟨f', k', p⟩ := p.ex
      exact hs i x σ' f' hx p H' k'
    · obtain ⟨f', k', p⟩ := p.ex
      exact hd σ' f' p H' k'
theorem RC.listQ {p : Addr} {xs : List V} {Φ : CV} (h : SqL K H0 p xs ∨ SqT K H0 p xs) (q : ∀ l, Φ (.ref l) ((l, .lst xs) :: fs)) : RC (rListOf K) [.ref p] H0 fs Φ := by
  rcases h with h | h
  · exact RC.listL (Rl.sq h) q
  · refine RC.listT (fun H k => ?_) q
    have s := k.same
    rcases h with (h | ⟨o, h⟩) | h
    · exact .inl (.inl (s _ _ h))
    · exact .inl (.inr ⟨o, s _ _ h⟩)
    · exact .inr h
end
/-- things that are no whole number -/
def OddH (H : Hp) (v : V) : Prop := (∃ b, v = .bl b) ∨ v = .non ∨ (∃ s, v = .str s) ∨ (∃ p l, v = .ref p ∧ H p = some (.lst l)) ∨ ∃ p l, v = .ref p ∧ H p = some (.tup l)
theorem OddH.same {H H' : Hp} {v : V} (h : OddH H v) (s : Same H H') : OddH H' v := by
  rcases h with h | h | h | ⟨p, l, e, h⟩ | ⟨p, l, e, h⟩
  · exact .inl h
  · exact .inr (.inl h)
  · exact .inr (.inr (.inl h))
  · exact .inr (.inr (.inr (.inl ⟨p, l, e, s _ _ h⟩)))
  · exact .inr (.inr (.inr (.inr ⟨p, l, e, s _ _ h⟩)))
def OddF (fs : Fs) (v : V) : Prop := (∃ b, v = .bl b) ∨ v = .non ∨ (∃ s, v = .str s) ∨ (∃ p l, v = .ref p ∧ (p, HO.lst l) ∈ fs) ∨ ∃ p l, v = .ref p ∧ (p, HO.tup l) ∈ fs
theorem OddF.at {H0 H : Hp} {fs : Fs} {v : V} (h : OddF fs v) (k : Kn H0 fs H) : OddH H v := by
  rcases h with h | h | h | ⟨p, l, e, h⟩ | ⟨p, l, e, h⟩
  · exact .inl h
  · exact .inr (.inl h)
  · exact .inr (.inr (.inl h))
  · exact .inr (.inr (.inr (.inl ⟨p, l, e, k.get h⟩)))
  · exact .inr (.inr (.inr (.inr ⟨p, l, e, k.get h⟩)))
theorem OddF.mono {fs fs' : Fs} {v : V} (h : OddF fs v) (hs : ∀ x ∈ fs, x ∈ fs') : OddF fs' v := by
  rcases h with h | h | h | ⟨p, l, e, h⟩ | ⟨p, l, e, h⟩
  · exact .inl h
  · exact .inr (.inl h)
  · exact .inr (.inr (.inl h))
  · exact .inr (.inr (.inr (.inl ⟨p, l, e, hs _ h⟩)))
  · exact .inr (.inr (.inr (.inr ⟨p, l, e, hs _ h⟩)))
end Pa

namespace Pa
open PySem PySem.Spec PyProof.Rows L2

theorem Kn.front {H0 : Hp} : ∀ {fs : Fs} {H : Hp} {i : Nat} {x : Addr × HO}, Kn H0 fs H → fs[i]? = some x → Kn H0 (x :: fs.eraseIdx i) H
  | [], _, _, _, _, h => by simp at h
  | y :: fs, H, 0, x, k, h => by
    have e : y = x := Option.some.inj h
    subst e; exact k
  | y :: fs, H, i + 1, x, ⟨e, H1, s, n, k⟩, h => by
    have h' : fs[i]? = some x := by simpa using h
    have k' := Kn.front k h'
    have k2 : Kn H0 (y :: x :: fs.eraseIdx i) H := ⟨e, H1, s, n, k'⟩
    exact k2.swap

section
variable {σ : St} {H0 : Hp} {fs : Fs} {Φ : CV} {te tl : TE} {tt : TT} {K : PySem.W.Frag}
/-- over range(lo, n): the i-th item is g i -/
theorem W.lcR2z {ta : TA} {j : Nat} {vs : List Nat} {lo n : Int} (g : Nat → Int)
    (h : WA ta σ H0 fs fun us f1 => us = [.int lo, .int n] ∧ (n ≤ 100000 ∧ -100000 ≤ n ∧ lo ≤ 100000 ∧ 0 ≤ lo) ∧
      (∀ x, wipe ((wipe σ vs).set j (some x)) vs = wipe σ vs) ∧
      (∀ (i : Nat) (D : Addr) (acc : List V), lo + (i : Int) < n → W te ((wipe σ vs).set j (some (.int (lo + (i : Int))))) H0 ((D, .lst acc) :: f1) fun v f2 => v = .int (g i) ∧ List.Sublist ((D, .lst acc) :: f1) f2) ∧
      ∀ D, Φ (.ref D) ((D, .lst (zV ((List.range (n - lo).toNat).map g))) :: f1)) : W (tLc (iRng2 ta) (gName j) tYes te vs) σ H0 fs Φ := fun H k Q c =>
  h H k _ fun us f1 H1 k1 ⟨e, hn, hw, hs, hd⟩ => by
    refine ⟨lo, n, e, ⟨by omega, by omega, by omega, by omega⟩, fun D hD => ?_⟩
    refine lc_range (lo := lo) (n := (n - lo).toNat) (fun i H' => Kn H0 ((D, .lst (zV ((List.range i).map g))) :: f1) H') (k1.new hD) (fun i H' hi p => ?_) (fun H' p => c _ _ _ p (hd D))
    refine ⟨hw _, ?_⟩
    show te ((wipe σ vs).set j (some (.int (lo + (i : Int))))) H' _
    refine hs i D _ (by omega) H' p _ fun v f2 H2 k2 ⟨ev, sb⟩ => ?_
    subst ev
    have k3 := k2.sub sb
    refine ⟨_, k3.get (.head _), sz_lt (by rw [zV_length]; simp; omega), ?_⟩
    have k4 := k3.put (i := 0) (o' := .lst (zV ((List.range i).map g) ++ [.int (g i)])) rfl
    show Kn H0 ((D, .lst (zV ((List.range (i + 1)).map g))) :: f1) _
    rw [List.range_succ, List.map_append, ← zV_app]
    exact k4
/-- over a list, with tests, items that may be made anew -/
theorem W.lcG {a : Addr} {xs : List V} {j : Nat} {vs : List Nat} (I : Nat → List V → Fs → Prop)
    (h : W tl σ H0 fs fun v f1 => v = .ref a ∧ Rl K H0 f1 a xs ∧ xs.length ≤ 100000 ∧ I 0 [] f1)
    (hl : ∀ i acc f, I i acc f → Rl K H0 f a xs)
    (hw : ∀ x, wipe ((wipe σ vs).set j (some x)) vs = wipe σ vs)
    (hs : ∀ (i : Nat) (x : V) (D : Addr) (acc : List V) (f : Fs), xs[i]? = some x → I i acc f →
      WT tt ((wipe σ vs).set j (some x)) H0 ((D, .lst acc) :: f) fun b f2 =>
        (b = true → W te ((wipe σ vs).set j (some x)) H0 f2 fun v f3 => ∃ m, f3[m]? = some (D, .lst acc) ∧ I (i + 1) (acc ++ [v]) (f3.eraseIdx m)) ∧
        (b = false → ∃ m, f2[m]? = some (D, .lst acc) ∧ I (i + 1) acc (f2.eraseIdx m)))
    (hd : ∀ D acc f, I xs.length acc f → Φ (.ref D) ((D, .lst acc) :: f)) : W (tLc (iList K tl) (gName j) tt te vs) σ H0 fs Φ := fun H k Q c =>
  h H k _ fun v f1 H1 k1 ⟨e, hr, hn, h0⟩ => by
    refine ⟨a, e, ⟨_, hr H1 k1⟩, fun D hD => ?_⟩
    refine lc_list (K := K) (a := a) (xs := xs) (fun i H' => ∃ acc f, Kn H0 ((D, .lst acc) :: f) H' ∧ I i acc f ∧ acc.length ≤ i) ⟨[], f1, k1.new hD, h0, Nat.le_refl _⟩ (fun i H' _ ⟨acc, f, p, hi, _⟩ => hl i acc f hi H' p.drop) (fun i x H' hx ⟨acc, f, p, hi, hlen⟩ => ?_) (fun H' ⟨acc, f, p, hi, _⟩ => c _ _ _ p (hd D acc f hi))
    obtain ⟨hlt, _⟩ := List.getElem?_eq_some_iff.mp hx
    refine ⟨hw _, ?_⟩
    show tt ((wipe σ vs).set j (some x)) H' _
    refine hs i x D acc f hx hi H' p _ fun b f2 H2 k2 ⟨ht, hf⟩ => ?_
    cases b with
    | true =>
      show te _ _ _
      refine ht rfl H2 k2 _ fun v f3 H3 k3 ⟨m, hm, hI⟩ => ?_
      have k4 := k3.front hm
      refine ⟨acc, k4.get (.head _), sz_lt (by omega), acc ++ [v], f3.eraseIdx m, k4.put (i := 0) rfl, hI, by simp; omega⟩
    | false =>
      obtain ⟨m, hm, hI⟩ := hf rfl
      exact ⟨acc, _, k2.front hm, hI, by omega⟩
/-- .. over a range -/
theorem W.lcRG {ta : TA} {n : Int} {j : Nat} {vs : List Nat} (I : Nat → List V → Fs → Prop)
    (h : WA ta σ H0 fs fun us f1 => us = [.int n] ∧ (n ≤ 100000 ∧ -100000 ≤ n) ∧ I 0 [] f1)
    (hw : ∀ x, wipe ((wipe σ vs).set j (some x)) vs = wipe σ vs)
    (hs : ∀ (i : Nat) (D : Addr) (acc : List V) (f : Fs), (i : Int) < n → I i acc f →
      WT tt ((wipe σ vs).set j (some (.int (i : Int)))) H0 ((D, .lst acc) :: f) fun b f2 =>
        (b = true → W te ((wipe σ vs).set j (some (.int (i : Int)))) H0 f2 fun v f3 => ∃ m, f3[m]? = some (D, .lst acc) ∧ I (i + 1) (acc ++ [v]) (f3.eraseIdx m)) ∧
        (b = false → ∃ m, f2[m]? = some (D, .lst acc) ∧ I (i + 1) acc (f2.eraseIdx m)))
    (hd : ∀ D acc f, I n.toNat acc f → Φ (.ref D) ((D, .lst acc) :: f)) : W (tLc (iRng1 ta) (gName j) tt te vs) σ H0 fs Φ := fun H k Q c =>
  h H k _ fun us f1 H1 k1 ⟨e, hn, h0⟩ => by
    refine ⟨n, e, by omega, by omega, fun D hD => ?_⟩
    refine lc_range (lo := 0) (n := n.toNat) (fun i H' => ∃ acc f, Kn H0 ((D, .lst acc) :: f) H' ∧ I i acc f ∧ acc.length ≤ i) ⟨[], f1, k1.new hD, h0, Nat.le_refl _⟩ (fun i H' hlt ⟨acc, f, p, hi, hlen⟩ => ?_) (fun H' ⟨acc, f, p, hi, _⟩ => c _ _ _ p (hd D acc f hi))
    have e0 : (0 : Int) + (i : Int) = (i : Int) := Int.zero_add _
    refine ⟨hw _, ?_⟩
    show tt ((wipe σ vs).set j (some (.int ((0 : Int) + (i : Int))))) H' _
    rw [e0]
    refine hs i D acc f (by omega) hi H' p _ fun b f2 H2 k2 ⟨ht, hf⟩ => ?_
    cases b with
    | true =>
      show te _ _ _
      refine ht rfl H2 k2 _ fun v f3 H3 k3 ⟨m, hm, hI⟩ => ?_
      have k4 := k3.front hm
      refine ⟨acc, k4.get (.head _), sz_lt (by omega), acc ++ [v], f3.eraseIdx m, k4.put (i := 0) rfl, hI, by simp; omega⟩
    | false =>
      obtain ⟨m, hm, hI⟩ := hf rfl
      exact ⟨acc, _, k2.front hm, hI, by omega⟩
/-- whole numbers that pass a test -/
theorem W.lcZf {ns : List Int} {j : Nat} {vs : List Nat} (p : Int → Bool)
    (h : W tl σ H0 fs fun v f1 => ∃ a, v = .ref a ∧ Rl K H0 f1 a (zV ns) ∧ ns.length ≤ 100000 ∧
      (∀ x, wipe ((wipe σ vs).set j (some x)) vs = wipe σ vs) ∧
      (∀ (x : Int) (D : Addr) (acc : List V), x ∈ ns → WT tt ((wipe σ vs).set j (some (.int x))) H0 ((D, .lst acc) :: f1) fun b f2 => b = p x ∧ f2 = (D, .lst acc) :: f1 ∧ (b = true → W te ((wipe σ vs).set j (some (.int x))) H0 f2 fun v f3 => v = .int x ∧ f3 = f2)) ∧
      ∀ D, Φ (.ref D) ((D, .lst (zV (ns.filter p))) :: f1)) : W (tLc (iList K tl) (gName j) tt te vs) σ H0 fs Φ := fun H k Q c =>
  h H k _ fun v f1 H1 k1 ⟨a, e, hr, hn, hw, hs, hd⟩ => by
    refine ⟨a, e, ⟨_, hr H1 k1⟩, fun D hD => ?_⟩
    refine lc_list (K := K) (a := a) (xs := zV ns) (fun i H' => Kn H0 ((D, .lst (zV ((ns.take i).filter p))) :: f1) H') (k1.new hD) (fun i H' _ p => hr H' p.drop) (fun i x H' hi q => ?_) (fun H' q => ?_)
    · obtain ⟨hl, e1⟩ := List.getElem?_eq_some_iff.mp hi
      rw [zV_length] at hl
      have e2 : x = .int ns[i] := by
        have := zV_get (ns := ns) (i := i) (x := ns[i]) (List.getElem?_eq_getElem hl)
        rw [hi] at this
        exact Option.some.inj this
      subst e2
      refine ⟨hw _, ?_⟩
      show tt ((wipe σ vs).set j (some (.int ns[i]))) H' _
      have hlen : ((ns.take i).filter p).length ≤ i := Nat.le_trans (List.length_filter_le _ _) (by rw [List.length_take]; omega)
      refine hs ns[i] D _ (List.getElem_mem hl) H' q _ fun b f2 H2 k2 ⟨eb, ef, ht⟩ => ?_
      subst eb ef
      have et : ns.take (i + 1) = ns.take i ++ [ns[i]] := by
        rw [List.take_add_one, List.getElem?_eq_getElem hl]; rfl
      cases hb : p ns[i] with
      | true =>
        show te _ _ _
        refine ht hb H2 k2 _ fun v f3 H3 k3 ⟨ev, ef⟩ => ?_
        subst ev ef
        refine ⟨_, k3.get (.head _), sz_lt (by rw [zV_length]; omega), ?_⟩
        have k4 := k3.put (i := 0) (o' := .lst (zV ((ns.take i).filter p) ++ [.int ns[i]])) rfl
        rw [et, List.filter_append, List.filter_cons_of_pos hb, ← zV_app]
        exact k4
      | false =>
        show Kn H0 ((D, .lst (zV ((ns.take (i + 1)).filter p))) :: f1) H2
        rw [et, List.filter_append, List.filter_cons_of_neg (by rw [hb]; exact Bool.false_ne_true), List.filter_nil, List.append_nil]
        exact k2
    · rw [zV_length, List.take_length] at q
      exact c _ _ _ q (hd D)
end
end Pa
namespace Pa
open PySem PySem.Spec PyProof.Rows L2
theorem ix_listK {X : Cx} {K : PySem.W.Frag} (h : X.K = K) : IxR X (rIxL K) := by subst h; exact ix_list
theorem ix_tupK {X : Cx} {K : PySem.W.Frag} (h : X.K = K) : IxR X (rIxT K) := by subst h; exact ix_tup
theorem N.swap {e : St → Hp → Prop} {σ : St} {H0 : Hp} {x y : Addr × HO} {fs : Fs} (h : N e σ H0 (y :: x :: fs)) : N e σ H0 (x :: y :: fs) := fun H k => h H k.swap
/-! ### is None -/
def rIsNon : R2 := fun x y H Q => y = .non ∧ Q (.bl (decide (x = .non))) H
def rNotNon : R2 := fun x y H Q => y = .non ∧ Q (.bl (!decide (x = .non))) H
theorem op_isNo {X : Cx} : OpR X (compareOp .Is) rIsNon := op_isN
theorem op_notNo {X : Cx} : OpR X (compareOp .IsNot) rNotNon := op_notN
section
variable {H0 : Hp} {fs : Fs} {Φ : CV} {p : Addr}
theorem RW.isNoR (q : Φ (.bl false) fs) : RW rIsNon (.ref p) .non H0 fs Φ := fun H k _ c => ⟨rfl, c _ fs H k q⟩
theorem RW.isNoN (q : Φ (.bl true) fs) : RW rIsNon .non .non H0 fs Φ := fun H k _ c => ⟨rfl, c _ fs H k q⟩
theorem RW.notNoR (q : Φ (.bl true) fs) : RW rNotNon (.ref p) .non H0 fs Φ := fun H k _ c => ⟨rfl, c _ fs H k q⟩
theorem RW.notNoN (q : Φ (.bl false) fs) : RW rNotNon .non .non H0 fs Φ := fun H k _ c => ⟨rfl, c _ fs H k q⟩
end
end Pa

namespace Pa

/-! ### rows of numbers without end, as a ring -/
def Ser : Type := Nat → Int
namespace Ser
@[ext] theorem ext {f g : Ser} (h : ∀ n, f n = g n) : f = g := funext h
def tail (f : Ser) : Ser := fun n => f (n + 1)
def sm (a : Int) (f : Ser) : Ser := fun n => a * f n
def mulC (f g : Ser) : Nat → Int
  | 0 => f 0 * g 0
  | n + 1 => f 0 * g (n + 1) + mulC (tail f) g n
def mul (f g : Ser) : Ser := fun n => mulC f g n
def C (a : Int) : Ser := fun n => if n = 0 then a else 0
instance : Zero Ser := ⟨C 0⟩
instance : One Ser := ⟨C 1⟩
instance : Add Ser := ⟨fun f g n => f n + g n⟩
instance : Neg Ser := ⟨fun f n => -f n⟩
instance : Sub Ser := ⟨fun f g n => f n - g n⟩
instance : Mul Ser := ⟨mul⟩
instance : NatCast Ser := ⟨fun n => C n⟩
instance : IntCast Ser := ⟨fun n => C n⟩
instance : SMul Nat Ser := ⟨fun k f => sm (k : Int) f⟩
instance : SMul Int Ser := ⟨fun k f => sm k f⟩
instance (n : Nat) : OfNat Ser n := ⟨C n⟩
def npow (f : Ser) : Nat → Ser
  | 0 => 1
  | n + 1 => npow f n * f
instance : HPow Ser Nat Ser := ⟨npow⟩
theorem C_zero (a : Int) : C a 0 = a := rfl
theorem C_succ (a : Int) (n : Nat) : C a (n + 1) = 0 := rfl
theorem zero_at (n : Nat) : (0 : Ser) n = 0 := by
  cases n with
  | zero => rfl
  | succ n => rfl
theorem add_at (f g : Ser) (n : Nat) : (f + g) n = f n + g n := rfl
theorem neg_at (f : Ser) (n : Nat) : (-f) n = -f n := rfl
theorem sub_at (f g : Ser) (n : Nat) : (f - g) n = f n - g n := rfl
theorem sm_at (a : Int) (f : Ser) (n : Nat) : (sm a f) n = a * f n := rfl
theorem tail_at (f : Ser) (n : Nat) : tail f n = f (n + 1) := rfl
theorem mul_zero_at (f g : Ser) : (f * g) 0 = f 0 * g 0 := rfl
theorem mul_succ_at (f g : Ser) (n : Nat) : (f * g) (n + 1) = f 0 * g (n + 1) + (tail f * g) n := rfl
theorem tail_add (f g : Ser) : tail (f + g) = tail f + tail g := rfl
theorem tail_sm (a : Int) (f : Ser) : tail (sm a f) = sm a (tail f) := rfl
theorem tail_mul (f g : Ser) : tail (f * g) = sm (f 0) (tail g) + tail f * g := rfl
theorem tail_C (a : Int) : tail (C a) = 0 := ext fun n => by rw [zero_at]; rfl
theorem tail_zero : tail 0 = 0 := tail_C 0
theorem zero_mul_at (g : Ser) (n : Nat) : ((0 : Ser) * g) n = 0 := by
  induction n with
  | zero => rw [mul_zero_at, zero_at, Int.zero_mul]
  | succ n ih => rw [mul_succ_at, zero_at, Int.zero_mul, tail_zero, ih]; rfl
theorem add_mul_at (f g h : Ser) (n : Nat) : ((f + g) * h) n = (f * h) n + (g * h) n := by
  induction n generalizing f g with
  | zero => rw [mul_zero_at, mul_zero_at, mul_zero_at, add_at, Int.add_mul]
  | succ n ih => rw [mul_succ_at, mul_succ_at, mul_succ_at, tail_add, ih, add_at, Int.add_mul]; omega
theorem sm_mul_at (a : Int) (f h : Ser) (n : Nat) : (sm a f * h) n = a * (f * h) n := by
  induction n generalizing f with
  | zero => rw [mul_zero_at, mul_zero_at, sm_at, Int.mul_assoc]
  | succ n ih => rw [mul_succ_at, mul_succ_at, tail_sm, ih, sm_at, Int.mul_assoc, Int.mul_add]
/-- the other recursion -/
theorem mul_succ_at' (f g : Ser) (n : Nat) : (f * g) (n + 1) = (f * tail g) n + f (n + 1) * g 0 := by
  induction n generalizing f with
  | zero => rw [mul_succ_at, mul_zero_at, mul_zero_at]; rfl
  | succ n ih =>
    rw [mul_succ_at, ih (tail f), mul_succ_at f (tail g), tail_at, tail_at]
    omega
theorem mul_comm_at (f g : Ser) (n : Nat) : (f * g) n = (g * f) n := by
  induction n generalizing f g with
  | zero => rw [mul_zero_at, mul_zero_at]; exact Int.mul_comm _ _
  | succ n ih =>
    rw [mul_succ_at' g f, ← ih (tail f) g, mul_succ_at, Int.mul_comm (f 0), Int.add_comm]
theorem mul_comm' (f g : Ser) : f * g = g * f := ext fun n => mul_comm_at f g n
theorem mul_assoc' (f g h : Ser) : f * g * h = f * (g * h) := by
  refine ext fun n => ?_
  induction n generalizing f with
  | zero => rw [mul_zero_at, mul_zero_at, mul_zero_at, mul_zero_at, Int.mul_assoc]
  | succ n ih =>
    rw [mul_succ_at, tail_mul, add_mul_at, sm_mul_at, ih (tail f), mul_succ_at f, mul_succ_at g, mul_zero_at, Int.mul_add, Int.mul_assoc]
    omega
theorem C_mul (a : Int) (f : Ser) (n : Nat) : (C a * f) n = a * f n := by
  cases n with
  | zero => rfl
  | succ n => rw [mul_succ_at, C_zero, tail_C, zero_mul_at, Int.add_zero]
theorem one_mul' (f : Ser) : 1 * f = f := ext fun n => by
  show (C 1 * f) n = f n
  rw [C_mul, Int.one_mul]
theorem one_eq : (1 : Ser) = C 1 := rfl
theorem zero_eq : (0 : Ser) = C 0 := rfl
theorem C_add (a b : Int) : C (a + b) = C a + C b := ext fun n => by
  cases n with
  | zero => rfl
  | succ n => rfl
theorem C_neg (a : Int) : C (-a) = -C a := ext fun n => by
  cases n with
  | zero => rfl
  | succ n => rfl
theorem C_sub (a b : Int) : C (a - b) = C a - C b := ext fun n => by
  cases n with
  | zero => rfl
  | succ n => rfl
theorem C_mulC (a b : Int) : C (a * b) = C a * C b := ext fun n => by
  rw [C_mul]
  cases n with
  | zero => rfl
  | succ n => rw [C_succ, C_succ, Int.mul_zero]
theorem C_inj {a b : Int} (h : C a = C b) : a = b := congrFun h 0
theorem sm_eq (a : Int) (f : Ser) : sm a f = C a * f := ext fun n => (C_mul a f n).symm
instance : Lean.Grind.CommRing Ser where
  add_zero f := ext fun n => by rw [add_at, zero_at, Int.add_zero]
  add_comm f g := ext fun n => Int.add_comm _ _
  add_assoc f g h := ext fun n => Int.add_assoc _ _ _
  mul_assoc := mul_assoc'
  mul_one f := by rw [mul_comm']; exact one_mul' f
  one_mul := one_mul'
  left_distrib f g h := by
    rw [mul_comm', mul_comm' f g, mul_comm' f h]
    exact ext fun n => add_mul_at g h f n
  right_distrib f g h := ext fun n => add_mul_at f g h n
  zero_mul f := ext fun n => by rw [zero_at, zero_mul_at]
  mul_zero f := by
    rw [mul_comm']
    exact ext fun n => by rw [zero_at, zero_mul_at]
  pow_zero f := rfl
  pow_succ f n := rfl
  nsmul_eq_natCast_mul k f := sm_eq k f
  ofNat_succ k := by
    show C ((k + 1 : Nat) : Int) = C (k : Int) + C 1
    rw [← C_add]; rfl
  ofNat_eq_natCast k := rfl
  neg_add_cancel f := ext fun n => by rw [add_at, neg_at, zero_at, Int.add_left_neg]
  sub_eq_add_neg f g := ext fun n => rfl
  neg_zsmul i f := ext fun n => Int.neg_mul _ _
  zsmul_natCast_eq_nsmul k f := rfl
  intCast_ofNat k := rfl
  intCast_neg k := C_neg k
  mul_comm := mul_comm'

example (a b : Ser) : (a + b) * (a - b) = a * a - b * b := by grind
example (a b c d : Ser) (h : a * b = c) (h2 : c = d * a) : a * b * b = d * a * b := by grind
end Ser
end Pa

namespace Pa
open Ser

/-! ### rows as series -/
def S (xs : List Int) : Ser := fun i => xs.getD i 0
theorem S_at (xs : List Int) (i : Nat) : S xs i = xs.getD i 0 := rfl
theorem S_out {xs : List Int} {i : Nat} (h : xs.length ≤ i) : S xs i = 0 := by
  rw [S_at, List.getD_eq_getElem?_getD, List.getElem?_eq_none h]; rfl
theorem S_nil : S [] = 0 := Ser.ext fun n => by rw [S_at, zero_at]; rfl
theorem getD_app_zeros (xs : List Int) (k i : Nat) : (xs ++ List.replicate k 0).getD i 0 = xs.getD i 0 := by
  rw [List.getD_eq_getElem?_getD, List.getD_eq_getElem?_getD, List.getElem?_append]
  split
  · rfl
  · rename_i h
    rw [List.getElem?_eq_none (by omega : xs.length ≤ i), List.getElem?_replicate]
    split <;> rfl
theorem S_trim (xs : List Int) : S (trim xs) = S xs := Ser.ext fun n => by
  obtain ⟨k, e, _⟩ := trim_cases xs
  rw [S_at, S_at]
  conv => rhs; rw [e]
  rw [getD_app_zeros]
theorem getD_map_range (n : Nat) (f : Nat → Int) (i : Nat) : ((List.range n).map f).getD i 0 = if i < n then f i else 0 := by
  rw [List.getD_eq_getElem?_getD, List.getElem?_map]
  by_cases h : i < n
  · rw [if_pos h, List.getElem?_range h]; rfl
  · rw [if_neg h, List.getElem?_eq_none (by simp; omega)]; rfl
theorem S_plus (xs ys : List Int) : S (plus xs ys) = S xs + S ys := by
  unfold plus
  rw [S_trim]
  refine Ser.ext fun n => ?_
  rw [S_at, getD_map_range, add_at]
  split
  · rw [gat_nat, gat_nat]; rfl
  · rw [S_out (by omega), S_out (by omega)]; rfl
theorem S_minus (xs ys : List Int) : S (minus xs ys) = S xs - S ys := by
  unfold minus
  rw [S_trim]
  refine Ser.ext fun n => ?_
  rw [S_at, getD_map_range, sub_at]
  split
  · rw [gat_nat, gat_nat]; rfl
  · rw [S_out (by omega), S_out (by omega)]; rfl
theorem S_map_mul (xs : List Int) (m : Int) : S (xs.map fun x => m * x) = C m * S xs := Ser.ext fun n => by
  rw [S_at, C_mul, S_at, List.getD_eq_getElem?_getD, List.getD_eq_getElem?_getD, List.getElem?_map]
  cases xs[n]? with
  | none => exact (Int.mul_zero m).symm
  | some x => rfl
theorem S_scaled (xs : List Int) (m : Int) : S (scaled xs m) = C m * S xs := by
  unfold scaled
  rw [S_trim, S_map_mul]
/-- the letter -/
def X : Ser := fun n => if n = 1 then 1 else 0
theorem tail_X : tail X = 1 := Ser.ext fun n => by
  cases n with
  | zero => rfl
  | succ n => rfl
theorem X_mul_zero (f : Ser) : (X * f) 0 = 0 := by rw [mul_zero_at]; exact Int.zero_mul _
theorem X_mul_succ (f : Ser) (n : Nat) : (X * f) (n + 1) = f n := by
  rw [mul_succ_at, tail_X, one_mul', show X 0 = 0 from rfl, Int.zero_mul, Int.zero_add]
theorem S_cons (a : Int) (r : List Int) : S (a :: r) = C a + X * S r := Ser.ext fun n => by
  cases n with
  | zero => rw [add_at, X_mul_zero]; exact (Int.add_zero a).symm
  | succ n => rw [add_at, X_mul_succ, C_succ, Int.zero_add]; rfl
theorem S_one (a : Int) : S [a] = C a := by
  rw [S_cons, S_nil]; grind
theorem X_pow_mul (j : Nat) (f : Ser) (i : Nat) : (X ^ j * f) i = if j ≤ i then f (i - j) else 0 := by
  induction j generalizing i with
  | zero =>
    have : X ^ 0 * f = f := by grind
    rw [this, if_pos (Nat.zero_le _)]; rfl
  | succ j ih =>
    have : X ^ (j + 1) * f = X * (X ^ j * f) := by grind
    rw [this]
    cases i with
    | zero => rw [X_mul_zero, if_neg (by omega)]
    | succ i =>
      rw [X_mul_succ, ih]
      by_cases h : j ≤ i
      · rw [if_pos h, if_pos (by omega), Nat.add_sub_add_right]
      · rw [if_neg h, if_neg (by omega)]
theorem S_app (xs ys : List Int) : S (xs ++ ys) = S xs + X ^ xs.length * S ys := by
  induction xs with
  | nil =>
    show S ys = S [] + X ^ 0 * S ys
    rw [S_nil]; grind
  | cons a r ih =>
    rw [List.cons_append, S_cons, ih, S_cons, List.length_cons]
    grind
theorem S_snoc (xs : List Int) (a : Int) : S (xs ++ [a]) = S xs + C a * X ^ xs.length := by
  rw [S_app, S_one]; grind
theorem S_take_succ {xs : List Int} {n : Nat} (h : n < xs.length) : S (xs.take (n + 1)) = S (xs.take n) + C (xs.getD n 0) * X ^ n := by
  rw [take_succ_getD h, S_snoc, List.length_take, Nat.min_eq_left (Nat.le_of_lt h)]

theorem S_set {acc : List Int} {i : Nat} (h : i < acc.length) (v : Int) : S (acc.set i (acc.getD i 0 + v)) = S acc + C v * X ^ i := Ser.ext fun n => by
  rw [S_at, getD_set, add_at, C_mul]
  have e : (X ^ i : Ser) = X ^ i * 1 := by grind
  rw [e, X_pow_mul]
  by_cases hn : i = n
  · subst hn
    rw [if_pos rfl, if_pos h, if_pos (Nat.le_refl _), Nat.sub_self]
    show _ = _ + v * 1
    rw [Int.mul_one]; rfl
  · rw [if_neg hn]
    by_cases hl : i ≤ n
    · rw [if_pos hl]
      obtain ⟨k, hk⟩ : ∃ k, n - i = k + 1 := ⟨n - i - 1, by omega⟩
      rw [hk]
      show _ = _ + v * 0
      rw [Int.mul_zero, Int.add_zero]; rfl
    · rw [if_neg hl, Int.mul_zero, Int.add_zero]; rfl
theorem S_row {x : Int} {ys : List Int} {j : Nat} {acc : List Int} : ∀ n : Nat, n ≤ ys.length → j + n ≤ acc.length → S (lp (tmIn x ys j) n acc) = S acc + C x * X ^ j * S (ys.take n)
  | 0, _, _ => by
    show S acc = _
    rw [List.take_zero, S_nil]; grind
  | n + 1, h1, h2 => by
    have ih := S_row (x := x) (ys := ys) (j := j) (acc := acc) n (by omega) (by omega)
    show S ((lp (tmIn x ys j) n acc).set (j + n) ((lp (tmIn x ys j) n acc).getD (j + n) 0 + x * ys.getD n 0)) = _
    rw [S_set (by rw [lp_len (fun i a => tmIn_len _ _ _ _ _)]; omega), ih, S_take_succ (by omega), C_mulC]
    have e : (X ^ (j + n) : Ser) = X ^ j * X ^ n := by grind
    rw [e]
    grind
theorem S_zeros (n : Nat) : S (List.replicate n 0) = 0 := Ser.ext fun i => by rw [S_at, getD_replicate, zero_at]
theorem S_raw {xs ys : List Int} : ∀ n : Nat, n ≤ xs.length → S (lp (tmRow xs ys) n (List.replicate (xs.length + ys.length) 0)) = S (xs.take n) * S ys
  | 0, _ => by
    show S (List.replicate (xs.length + ys.length) 0) = _
    rw [S_zeros, List.take_zero, S_nil]; grind
  | n + 1, h => by
    have ih := S_raw (xs := xs) (ys := ys) n (by omega)
    show S (lp (tmIn (xs.getD n 0) ys n) ys.length _) = _
    rw [S_row ys.length (Nat.le_refl _) (by rw [lp_len (fun i a => tmRow_len _ _ _ _), List.length_replicate]; omega), ih, S_take_succ (by omega), List.take_length]
    grind
theorem S_tm (xs ys : List Int) : S (tm xs ys) = S xs * S ys := by
  unfold tm
  rw [S_trim]
  unfold tmRaw
  rw [S_raw xs.length (Nat.le_refl _), List.take_length]
theorem S_pw (xs : List Int) : ∀ n : Nat, S (pw xs n) = S xs ^ n
  | 0 => by
    show S [1] = _
    rw [S_one, ← one_eq]; grind
  | n + 1 => by
    show S (tm (pw xs n) xs) = _
    rw [S_tm, S_pw xs n]; grind
/-- trimmed rows are told by their series -/
theorem S_inj {xs ys : List Int} (hx : Tr xs) (hy : Tr ys) (h : S xs = S ys) : xs = ys := by
  have key : ∀ {xs ys : List Int}, Tr xs → S xs = S ys → xs.length ≤ ys.length := fun {xs ys} hx h => by
    rcases snoc_cases xs with rfl | ⟨zs, z, rfl⟩
    · exact Nat.zero_le _
    · refine Nat.le_of_not_lt fun hl => ?_
      rw [List.length_append, List.length_singleton] at hl
      have hz := tr_last hx (by simp)
      rw [List.getLast_append] at hz
      have e := congrFun h zs.length
      rw [S_out (xs := ys) (by omega), S_at, List.getD_eq_getElem?_getD] at e
      simp at e hz
      exact hz e
  have l1 := key hx h
  have l2 := key hy h.symm
  refine List.ext_getElem (Nat.le_antisymm l1 l2) fun i h1 h2 => ?_
  have e := congrFun h i
  rw [S_at, S_at, List.getD_eq_getElem?_getD, List.getD_eq_getElem?_getD, List.getElem?_eq_getElem h1, List.getElem?_eq_getElem h2] at e
  exact e
theorem tm_comm (xs ys : List Int) : tm xs ys = tm ys xs := S_inj (tm_tr _ _) (tm_tr _ _) (by rw [S_tm, S_tm]; grind)
theorem plus_tr (xs ys : List Int) : Tr (plus xs ys) := tr_trim _
theorem minus_tr (xs ys : List Int) : Tr (minus xs ys) := tr_trim _
theorem scaled_tr (xs : List Int) (m : Int) : Tr (scaled xs m) := tr_trim _
theorem S_zero_nil {xs : List Int} (hx : Tr xs) (h : S xs = 0) : xs = [] := S_inj hx tr_nil (by rw [h, S_nil])

/-! ### one in the other's letter -/
def pin (ys : List Int) : List Int → List Int
  | [] => []
  | a :: r => plus (tm (pin ys r) ys) [a]
def sub (G : Ser) : List Int → Ser
  | [] => 0
  | a :: r => C a + sub G r * G
theorem S_pin (ys : List Int) : ∀ xs : List Int, S (pin ys xs) = sub (S ys) xs
  | [] => S_nil
  | a :: r => by
    show S (plus (tm (pin ys r) ys) [a]) = C a + sub (S ys) r * S ys
    rw [S_plus, S_tm, S_one, S_pin ys r]; grind
theorem sub_snoc (G : Ser) (xs : List Int) (a : Int) : sub G (xs ++ [a]) = sub G xs + C a * G ^ xs.length := by
  induction xs with
  | nil =>
    show C a + 0 * G = 0 + C a * G ^ 0
    grind
  | cons b r ih =>
    show C b + sub G (r ++ [a]) * G = C b + sub G r * G + C a * G ^ (r.length + 1)
    rw [ih]; grind
theorem pin_tr (ys : List Int) : ∀ xs : List Int, Tr (pin ys xs)
  | [] => tr_nil
  | a :: r => plus_tr _ _
theorem pin_len (ys : List Int) : ∀ xs : List Int, (pin ys xs).length ≤ xs.length * (ys.length + 1)
  | [] => Nat.zero_le _
  | a :: r => by
    have ih := pin_len ys r
    have h1 := plus_len (tm (pin ys r) ys) [a]
    have h2 := tm_len (pin ys r) ys
    show (plus (tm (pin ys r) ys) [a]).length ≤ (r.length + 1) * (ys.length + 1)
    rw [Nat.succ_mul]
    simp only [List.length_singleton] at h1
    omega
theorem pin_bd {ys : List Int} {a b c : Nat} (hy : BdL b ys) : ∀ xs : List Int, BdL a xs → xs.length * (ys.length + 1) ≤ 2 ^ c → BdL (a + xs.length * (b + c + 1)) (pin ys xs)
  | [], _, _ => BdL.nil
  | x :: r, hx, hl => by
    have hl' : (r.length + 1) * (ys.length + 1) ≤ 2 ^ c := hl
    rw [Nat.succ_mul] at hl'
    have ih := pin_bd (a := a) (c := c) hy r (fun y h => hx y (List.mem_cons_of_mem _ h)) (by omega)
    have h1 := tm_bd (c := c) ih hy (by have := pin_len ys r; omega)
    have h2 : BdL a [x] := fun y h => hx y (by rw [List.mem_singleton.mp h]; exact List.mem_cons_self)
    have h3 := plus_bd h1 (h2.mono (show a ≤ a + r.length * (b + c + 1) + b + c by omega))
    refine h3.mono ?_
    show _ ≤ a + (r.length + 1) * (b + c + 1)
    rw [Nat.succ_mul]; omega
/-! ### the law's own way of adding up -/
def due (ys : List Int) : Nat → List Int → List Int × List Int
  | 0, _ => ([], [1])
  | n + 1, xs => (plus (due ys n xs).1 (tm [xs.getD n 0] (due ys n xs).2), tm (due ys n xs).2 ys)
theorem due_pw (ys : List Int) (xs : List Int) : ∀ n, (due ys n xs).2 = pw ys n
  | 0 => rfl
  | n + 1 => by
    show tm (due ys n xs).2 ys = tm (pw ys n) ys
    rw [due_pw]
theorem S_due (ys xs : List Int) : ∀ n, n ≤ xs.length → S (due ys n xs).1 = sub (S ys) (xs.take n)
  | 0, _ => by rw [List.take_zero]; exact S_nil
  | n + 1, h => by
    show S (plus (due ys n xs).1 (tm [xs.getD n 0] (due ys n xs).2)) = _
    rw [S_plus, S_tm, S_one, due_pw, S_pw, S_due ys xs n (by omega), take_succ_getD (by omega), sub_snoc, List.length_take, Nat.min_eq_left (by omega)]
theorem due_tr (ys xs : List Int) (n : Nat) : Tr (due ys n xs).1 := by
  cases n with
  | zero => exact tr_nil
  | succ n => exact plus_tr _ _
theorem due_eq (ys xs : List Int) : (due ys xs.length xs).1 = pin ys xs := S_inj (due_tr _ _ _) (pin_tr _ _) (by rw [S_due _ _ _ (Nat.le_refl _), List.take_length, S_pin])
end Pa

namespace Pa
open PySem PySem.Spec PyProof.Rows L2

/-! ### texts as rows of codes -/
abbrev tx (l : List Nat) : Str := ⟨l.toArray⟩
theorem tx_len (l : List Nat) : (tx l).length = l.length := SX.S_len l
theorem tx_inj {a b : List Nat} (h : tx a = tx b) : a = b := SX.S_inj h
theorem dec_tx (a b : List Nat) : decide (tx a = tx b) = decide (a = b) := by
  by_cases h : a = b
  · subst h; rw [decide_eq_true rfl, decide_eq_true rfl]
  · rw [decide_eq_false h, decide_eq_false fun z => h (tx_inj z)]
theorem pe_strL {X : Cx} {x : Str} {j pos} {l : List Nat} (h : x = tx l) : PE X (.Constant (.str x) j pos) (tC (.str (tx l))) := by
  subst h; exact pe_str
/-- texts of codes, put together -/
def rAddS : R2 := fun x y H Q => ∃ i j, x = .str i ∧ y = .str j ∧ i.length + j.length ≤ sizeLine ∧ Q (.str (i ++ j)) H
theorem op_addX {X : Cx} : OpR X (binaryOp .Add) rAddS := op_add_str
def rStrI : List V → Hp → VK → Prop := fun xs H Q => ∃ i : Int, xs = [.int i] ∧ i.natAbs.log2 < 1920 ∧ Q (.str (toString i)) H
theorem cStr {X : Cx} : CallR X (.type "str") rStrI := call_str_int
def rIntS : List V → Hp → VK → Prop := fun xs H Q => ∃ a n, xs = [.str a] ∧ PySem.intText? a = some n ∧ a.length ≤ 640 ∧ Q (.int n) H
theorem cInt {X : Cx} : CallR X (.type "int") rIntS := call_int_str
theorem sl_strR {X : Cx} : SlR X C8.rSlX := C8.sl_txt
def rIndexS : V → List V → Hp → VK → Prop := fun x xs H Q => ∃ a b i rest, x = .str a ∧ xs = [.str b] ∧ Builtin.Str.occurrences a b 0 a.length 1 = i :: rest ∧ Q (.int (i : Nat)) H
theorem mt_index {X : Cx} : MtR X "str.index" rIndexS := mt_sindex
def rSplitS : V → List V → Hp → VK → Prop := fun x xs H Q => ∃ a b, x = .str a ∧ xs = [.str b] ∧ (b.length == 0) = false ∧ a.length + 2 ≤ sizeLine ∧ rNewStrs (PySem.Txt.split a b) H Q
theorem mt_splitR {X : Cx} : MtR X "str.split" rSplitS := mt_split
section
variable {σ : St} {H0 : Hp} {fs : Fs} {Φ : CV} {ta tb te : TE} {K : PySem.W.Frag} {D : Ends} {ts : TS}
theorem RW.addS {a b : List Nat} (h : a.length + b.length ≤ 1000000) (q : Φ (.str (tx (a ++ b))) fs) : RW rAddS (.str (tx a)) (.str (tx b)) H0 fs Φ := fun H k _ c =>
  ⟨tx a, tx b, rfl, rfl, by rw [tx_len, tx_len]; exact sz_le h, by
    have e : tx a ++ tx b = tx (a ++ b) := SX.S_cat a b
    rw [e]; exact c _ fs H k q⟩
theorem RW.eqL {a b : List Nat} (q : Φ (.bl (decide (a = b))) fs) : RW rEq (.str (tx a)) (.str (tx b)) H0 fs Φ := RW.eqS (by rw [dec_tx]; exact q)
theorem RW.neL {a b : List Nat} (q : Φ (.bl (!decide (a = b))) fs) : RW rNe (.str (tx a)) (.str (tx b)) H0 fs Φ := RW.neS (by rw [dec_tx]; exact q)
theorem RW.inL {c : Nat} {a : List Nat} (q : Φ (.bl (decide (c ∈ a))) fs) : RW rInS (.str (tx [c])) (.str (tx a)) H0 fs Φ := fun H k _ cc => ⟨c, tx a, rfl, rfl, cc _ fs H k q⟩
theorem RW.notInL {c : Nat} {a : List Nat} (q : Φ (.bl (!decide (c ∈ a))) fs) : RW rNotInS (.str (tx [c])) (.str (tx a)) H0 fs Φ := fun H k _ cc => ⟨c, tx a, rfl, rfl, cc _ fs H k q⟩
theorem RW.ixC {a : List Nat} {i : Int} {c : Nat} (hl : a.length ≤ 1000000) (h : atI a i = some c) (q : Φ (.str (tx [c])) fs) : RW rIxS (.str (tx a)) (.int i) H0 fs Φ := fun H k _ cc =>
  ⟨tx a, i, c, rfl, rfl, by rw [tx_len]; exact sz_le hl, h, cc _ fs H k q⟩
theorem RS.takeS {a : List Nat} {i : Int} (h : 0 ≤ i) (hl : a.length ≤ 1000000) (q : Φ (.str (tx (a.take i.toNat))) fs) : RS C8.rSlX (.str (tx a)) none (some i) H0 fs Φ := fun H k _ cc =>
  ⟨tx a, rfl, by rw [tx_len]; exact sz_le hl, by
    have e : PySem.Txt.slice (tx a) none (some i) = tx (a.take i.toNat) := SX.slice_to h
    rw [e]; exact cc _ fs H k q⟩
theorem RS.dropS {a : List Nat} {i : Int} (h : 0 ≤ i) (hl : a.length ≤ 1000000) (q : Φ (.str (tx (a.drop i.toNat))) fs) : RS C8.rSlX (.str (tx a)) (some i) none H0 fs Φ := fun H k _ cc =>
  ⟨tx a, rfl, by rw [tx_len]; exact sz_le hl, by
    have e : PySem.Txt.slice (tx a) (some i) none = tx (a.drop i.toNat) := SX.slice_from h
    rw [e]; exact cc _ fs H k q⟩
theorem RC.strI {n : Nat} (h : n.log2 < 1920) (q : Φ (.str (tx (TL.numL n))) fs) : RC rStrI [.int (n : Int)] H0 fs Φ := fun H k _ c =>
  ⟨(n : Int), rfl, by rw [Int.natAbs_natCast]; exact h, by
    have e : Str.ofString (toString ((n : Nat) : Int)) = tx (TL.numL n) := SX.num_S n
    rw [e]; exact c _ fs H k q⟩
theorem RC.lenX {a : List Nat} (h : a.length ≤ 1000000) (q : Φ (.int (a.length : Int)) fs) : RC rLenS [.str (tx a)] H0 fs Φ := RC.lenS (by rw [tx_len]; exact h) (by rw [tx_len]; exact q)
theorem W.m1 {to : TE} {r : V → List V → Hp → VK → Prop} (h : W to σ H0 fs fun x f1 => (∃ a, x = .str a) ∧ W te σ H0 f1 fun y f2 => RM r x [y] H0 f2 Φ) : W (tM1 r to te) σ H0 fs Φ := fun H k Q c =>
  h H k _ fun _ _ H1 k1 ⟨e, h1⟩ => ⟨e, h1 H1 k1 _ fun _ _ H2 k2 h2 => h2 H2 k2 Q c⟩
theorem occ_at {c : Nat} {p : List Nat} (q : List Nat) (h : c ∉ p) : ∃ rest, Builtin.Str.occurrences (tx (p ++ c :: q)) (tx [c]) 0 (tx (p ++ c :: q)).length 1 = p.length :: rest := by
  have hat : ∀ i, StrLaws.At (tx (p ++ c :: q)) (tx [c]) (tx (p ++ c :: q)).length i ↔ TL.pre [c] ((p ++ c :: q).drop i) = true := fun i => TL.at_iff (x := tx (p ++ c :: q)) (y := tx [c]) (by exact List.cons_ne_nil _ _) i
  have here : TL.pre [c] ((p ++ c :: q).drop p.length) = true := by
    rw [List.drop_left]; unfold TL.pre; simp
  rcases StrLaws.occ_head (tx (p ++ c :: q)) (tx [c]) 1 (Nat.le_refl 1) with ⟨_, hn⟩ | ⟨i, r, e, ha, hn⟩
  · exact absurd ((hat p.length).mpr here) (hn _)
  · have h1 : ¬ p.length < i := fun z => hn _ z ((hat _).mpr here)
    have h2 : ¬ i < p.length := fun z => by
      have := (hat i).mp ha
      rw [List.drop_append_of_le_length (Nat.le_of_lt z), List.drop_eq_getElem_cons z] at this
      have t2 : p[i] :: List.take 0 (p.drop (i + 1) ++ c :: q) = [c] := eq_of_beq this
      exact h ((List.cons.inj t2).1 ▸ List.getElem_mem z)
    have e2 : i = p.length := by omega
    subst e2
    exact ⟨r, e⟩
theorem RM.indexL {c : Nat} {p : List Nat} {q : List Nat} (h : c ∉ p) (qq : Φ (.int (p.length : Int)) fs) : RM rIndexS (.str (tx (p ++ c :: q))) [.str (tx [c])] H0 fs Φ := fun H k _ cc => by
  obtain ⟨rest, e⟩ := occ_at q h
  exact ⟨_, _, _, rest, rfl, rfl, e, cc _ fs H k qq⟩
/-- a list of texts -/
def sV (ws : List (List Nat)) : List V := ws.map fun l => V.str (tx l)
theorem sV_length (ws : List (List Nat)) : (sV ws).length = ws.length := List.length_map _
theorem atI_sV {ws : List (List Nat)} {i : Nat} {l : List Nat} (h : ws[i]? = some l) : atI (sV ws) (i : Int) = some (.str (tx l)) := by
  refine atI_nat ?_
  unfold sV
  rw [List.getElem?_map, h]; rfl
theorem RM.splitL {a : List Nat} {c : Nat} (hc : c < 256) (hl : a.length ≤ 900000) (q : ∀ p, Φ (.ref p) ((p, .lst (sV (TL.spl [c] 0 [] a))) :: fs)) : RM rSplitS (.str (tx a)) [.str (tx [c])] H0 fs Φ := fun H k _ cc =>
  ⟨tx a, tx [c], rfl, rfl, rfl, by rw [tx_len]; exact sz_le (by omega), fun p hp => by
    have e : PySem.Txt.split (tx a) (tx [c]) = (TL.spl [c] 0 [] a).map tx := SX.split_S (List.cons_ne_nil _ _) (by simpa using hc)
    rw [e, List.map_map]
    exact cc _ _ _ (k.new hp) (q p)⟩
/-- over the signs of a text -/
theorem S.forS {a : List Nat} {j : Nat} (I : Nat → St → Fs → Prop)
    (h : W te σ H0 fs fun v f1 => v = .str (tx a) ∧ I 0 σ f1)
    (hs : ∀ (i : Nat) (c : Nat) σ' f', a[i]? = some c → I i σ' f' → N (ts { D with nx := Lp H0 I (i + 1), ct := Lp H0 I (i + 1), bk := D.nx }) (σ'.set j (some (.str (tx [c])))) H0 f')
    (hd : ∀ σ' f', I a.length σ' f' → N D.nx σ' H0 f') : N (tFor (iStr te) (gName j) ts D) σ H0 fs := fun H k =>
  h H k _ fun v f1 H1 k1 ⟨e, h0⟩ => by
    refine ⟨tx a, e, for_it (walk_str (z := tx a)) (Lp H0 I) ⟨f1, k1, h0⟩ (fun _ _ _ _ _ => trivial) (fun i x σ' H' H2 hi p y => ?_) (fun σ' H' p => ?_)⟩
    · obtain ⟨eh, c, hc, ex⟩ := y
      subst eh ex
      obtain ⟨f', k', p'⟩ := p.ex
      exact hs i c σ' f' (by simpa using hc) p' _ k'
    · obtain ⟨f', k', p⟩ := p.ex
      have e2 : (tx a).cps.size = a.length := by simp
      rw [e2] at p
      exact hd σ' f' p H' k'
theorem RC.intN {n : Nat} (h : (TL.numL n).length ≤ 640) (q : Φ (.int (n : Int)) fs) : RC rIntS [.str (tx (TL.numL n))] H0 fs Φ := fun H k _ c =>
  ⟨_, (n : Int), rfl, by
    have e : Str.ofString (toString ((n : Nat) : Int)) = tx (TL.numL n) := SX.num_S n
    rw [← e]; exact TL.int_num (Nat.le_trans h (by decide)), by rw [tx_len]; exact h, c _ fs H k q⟩
end
theorem pe_globS {X : Cx} {x s : Str} {l : List Nat} {pos : Pos} (hg : Gl X x) (h : ∃ t, X.mg x = some (.str s t)) (e : s = tx l) (hd : (x == ("__debug__" : Str)) = false := by decide) : PE X (.Name x pos) (tC (.str (tx l))) := by
  obtain ⟨t, h⟩ := h
  subst e
  exact pe_glob hg h ⟨t, rfl⟩ hd
end Pa

namespace Pa
open TL (numL joinL)

/-! ### a polynomial's writing -/
def lett (p : Nat) : List Nat := if p = 0 then [] else if p = 1 then [120] else [120, 94] ++ numL p
def trm (n p : Nat) : List Nat := (if n = 1 ∧ 0 < p then [] else numL n) ++ lett p
def sgn (f : List Nat) (n : Int) : List Nat := if f = [] then (if n < 0 then [45] else []) else (if n < 0 then [32, 45, 32] else [32, 43, 32])
def wrs (xs : List Int) : Nat → List Nat
  | 0 => []
  | t + 1 => if xs.getD (xs.length - 1 - t) 0 = 0 then wrs xs t else wrs xs t ++ sgn (wrs xs t) (xs.getD (xs.length - 1 - t) 0) ++ trm (xs.getD (xs.length - 1 - t) 0).natAbs (xs.length - 1 - t)
def wr (xs : List Int) : List Nat := if wrs xs xs.length = [] then [48] else wrs xs xs.length
theorem numL_one {n : Nat} : numL n = [49] ↔ n = 1 := by
  have e : numL 1 = [49] := TL.numL_lt (by decide)
  constructor
  · intro h; exact TL.numL_inj (by rw [h, e])
  · intro h; rw [h, e]
theorem numL_len64 {n : Nat} (h : n < 2 ^ 210) : (numL n).length ≤ 64 := TL.numL_len (by decide) (Nat.lt_of_lt_of_le h (by decide))
theorem lett_len {p : Nat} (h : p < 1000) : (lett p).length ≤ 5 := by
  unfold lett
  have h2 := TL.numL_len (n := p) (k := 3) (by decide) (by omega)
  split
  · exact Nat.zero_le _
  · split
    · decide
    · rw [List.length_append, List.length_cons, List.length_cons, List.length_nil]; omega
theorem trm_len {n p : Nat} (h : n < 2 ^ 210) (hp : p < 1000) : (trm n p).length ≤ 69 := by
  unfold trm
  have h1 := numL_len64 h
  have h2 := lett_len hp
  rw [List.length_append]
  split
  · rw [List.length_nil]; omega
  · omega
theorem sgn_len (f : List Nat) (n : Int) : (sgn f n).length ≤ 3 := by
  unfold sgn
  split <;> split <;> decide
theorem wrs_len {xs : List Int} (hb : BdL 210 xs) (hl : xs.length ≤ 900) : ∀ t, (wrs xs t).length ≤ 72 * t
  | 0 => Nat.zero_le _
  | t + 1 => by
    have ih := wrs_len hb hl t
    show (if xs.getD (xs.length - 1 - t) 0 = 0 then wrs xs t else wrs xs t ++ sgn (wrs xs t) (xs.getD (xs.length - 1 - t) 0) ++ trm (xs.getD (xs.length - 1 - t) 0).natAbs (xs.length - 1 - t)).length ≤ _
    split
    · omega
    · have h1 := sgn_len (wrs xs t) (xs.getD (xs.length - 1 - t) 0)
      have h2 := trm_len (hb.at (xs.length - 1 - t)) (show xs.length - 1 - t < 1000 by omega)
      rw [List.length_append, List.length_append]; omega

/-! ### its terms -/
def tms (xs : List Int) : Nat → List (Int × Nat)
  | 0 => []
  | t + 1 => if xs.getD (xs.length - 1 - t) 0 = 0 then tms xs t else tms xs t ++ [(xs.getD (xs.length - 1 - t) 0, xs.length - 1 - t)]
def sg (n : Int) : List Nat := if n < 0 then [45] else [43]
def more2 (ts : List (Int × Nat)) : List (List Nat) := ts.flatMap fun t => [sg t.1, trm t.1.natAbs t.2]
def words : List (Int × Nat) → List (List Nat)
  | [] => []
  | a :: r => trm a.1.natAbs a.2 :: more2 r
def hs : List (Int × Nat) → List Nat
  | [] => []
  | a :: _ => if a.1 < 0 then [45] else []
theorem trm_ne (n p : Nat) : trm n p ≠ [] := by
  unfold trm
  split
  · rename_i h
    intro z
    have z2 := (List.append_eq_nil_iff.mp z).2
    unfold lett at z2
    rw [if_neg (by omega)] at z2
    split at z2
    · exact nomatch z2
    · exact nomatch z2
  · intro z
    exact TL.numL_ne n (List.append_eq_nil_iff.mp z).1
theorem words_snoc {a : Int × Nat} {r : List (Int × Nat)} (b : Int × Nat) : words (a :: r ++ [b]) = words (a :: r) ++ [sg b.1, trm b.1.natAbs b.2] := by
  show trm a.1.natAbs a.2 :: more2 (r ++ [b]) = _
  unfold more2
  rw [List.flatMap_append]
  rfl
theorem joinL_snoc (s w : List Nat) : ∀ {ws : List (List Nat)}, ws ≠ [] → joinL s (ws ++ [w]) = joinL s ws ++ s ++ w
  | [], h => absurd rfl h
  | [a], _ => by
    show joinL s [a, w] = _
    simp [joinL]
  | a :: b :: r, _ => by
    have ih := joinL_snoc s w (ws := b :: r) (by simp)
    show a ++ (s ++ joinL s (b :: r ++ [w])) = a ++ (s ++ joinL s (b :: r)) ++ s ++ w
    rw [ih]; simp [List.append_assoc]
theorem words_ne {a : Int × Nat} {r : List (Int × Nat)} : words (a :: r) ≠ [] := List.cons_ne_nil _ _
theorem join_ne {a : Int × Nat} {r : List (Int × Nat)} : joinL [32] (words (a :: r)) ≠ [] := by
  show joinL [32] (trm a.1.natAbs a.2 :: more2 r) ≠ []
  cases h : more2 r with
  | nil =>
    intro z
    exact trm_ne _ _ (by simpa [joinL] using z)
  | cons b s =>
    intro z
    have : trm a.1.natAbs a.2 ++ ([32] ++ joinL [32] (b :: s)) = [] := z
    simp at this
theorem wrs_eq (xs : List Int) : ∀ t, wrs xs t = hs (tms xs t) ++ joinL [32] (words (tms xs t)) ∧ (wrs xs t = [] ↔ tms xs t = [])
  | 0 => ⟨rfl, by exact ⟨fun _ => rfl, fun _ => rfl⟩⟩
  | t + 1 => by
    obtain ⟨ih, ih2⟩ := wrs_eq xs t
    unfold wrs tms
    generalize xs.getD (xs.length - 1 - t) 0 = n
    generalize xs.length - 1 - t = p
    by_cases hn : n = 0
    · rw [if_pos hn, if_pos hn]; exact ⟨ih, ih2⟩
    · rw [if_neg hn, if_neg hn]
      cases ht : tms xs t with
      | nil =>
        have hw : wrs xs t = [] := ih2.mpr ht
        rw [hw]
        refine ⟨?_, ?_⟩
        · show [] ++ sgn [] n ++ trm n.natAbs p = (if n < 0 then [45] else []) ++ joinL [32] [trm n.natAbs p]
          unfold sgn
          rw [if_pos rfl]
          simp [joinL]
        · refine ⟨fun z => ?_, fun z => nomatch z⟩
          exact absurd (List.append_eq_nil_iff.mp z).2 (trm_ne _ _)
      | cons a r =>
        have hw : wrs xs t ≠ [] := fun z => by
          have := ih2.mp z
          rw [ht] at this
          exact nomatch this
        refine ⟨?_, ?_⟩
        · rw [words_snoc, show words (a :: r) ++ [sg n, trm n.natAbs p] = (words (a :: r) ++ [sg n]) ++ [trm n.natAbs p] by simp, joinL_snoc [32] _ (by simp), joinL_snoc [32] _ words_ne, ih, ht]
          show _ = hs (a :: r) ++ _
          unfold sgn sg
          rw [if_neg (by rw [← ht, ← ih]; exact hw)]
          split <;> simp
        · refine ⟨fun z => ?_, fun z => ?_⟩
          · exact absurd (List.append_eq_nil_iff.mp z).2 (trm_ne _ _)
          · simp at z
theorem tms_len (xs : List Int) : ∀ t, (tms xs t).length ≤ t
  | 0 => Nat.le_refl _
  | t + 1 => by
    have ih := tms_len xs t
    unfold tms
    split
    · omega
    · rw [List.length_append, List.length_singleton]; omega
theorem tms_pow (xs : List Int) : ∀ t, t ≤ xs.length → ∀ a ∈ tms xs t, xs.length - t ≤ a.2 ∧ a.2 < xs.length ∧ a.1 = xs.getD a.2 0 ∧ a.1 ≠ 0
  | 0, _ => fun a h => nomatch h
  | t + 1, ht => fun a h => by
    have ih := tms_pow xs t (by omega)
    unfold tms at h
    split at h
    · obtain ⟨h1, h2, h3, h4⟩ := ih a h
      exact ⟨by omega, h2, h3, h4⟩
    · rename_i h0
      rcases List.mem_append.mp h with h | h
      · obtain ⟨h1, h2, h3, h4⟩ := ih a h
        exact ⟨by omega, h2, h3, h4⟩
      · rw [List.mem_singleton.mp h]
        exact ⟨by show _ ≤ xs.length - 1 - t; omega, by show xs.length - 1 - t < _; omega, rfl, h0⟩
theorem tms_desc (xs : List Int) : ∀ t, t ≤ xs.length → (tms xs t).Pairwise fun a b => b.2 < a.2
  | 0, _ => List.Pairwise.nil
  | t + 1, ht => by
    have ih := tms_desc xs t (by omega)
    have hp := tms_pow xs t (by omega)
    unfold tms
    split
    · exact ih
    · rw [List.pairwise_append]
      refine ⟨ih, List.pairwise_singleton _ _, fun a ha b hb => ?_⟩
      rw [List.mem_singleton.mp hb]
      have := (hp a ha).1
      show xs.length - 1 - t < a.2
      omega
/-- a row filled from terms -/
def fill (ts : List (Int × Nat)) : List Int := ts.foldl (fun r a => r.set a.2 a.1) (List.replicate 100 0)
theorem fill_snoc (ts : List (Int × Nat)) (a : Int × Nat) : fill (ts ++ [a]) = (fill ts).set a.2 a.1 := by
  unfold fill
  rw [List.foldl_append]; rfl
theorem fill_len (ts : List (Int × Nat)) : (fill ts).length = 100 := by
  unfold fill
  generalize hz : List.replicate 100 (0 : Int) = z
  have hl : z.length = 100 := by rw [← hz, List.length_replicate]
  clear hz
  induction ts generalizing z with
  | nil => exact hl
  | cons a r ih =>
    rw [List.foldl_cons]
    exact ih _ (by rw [List.length_set]; exact hl)
theorem fill_at {xs : List Int} (hl : xs.length ≤ 100) : ∀ t, t ≤ xs.length → ∀ i, (fill (tms xs t)).getD i 0 = if xs.length - t ≤ i ∧ i < xs.length then xs.getD i 0 else 0
  | 0, _ => fun i => by
    rw [if_neg (by omega)]
    exact getD_replicate _ _
  | t + 1, ht => fun i => by
    have ih := fill_at hl t (by omega)
    unfold tms
    split
    · rename_i h0
      rw [ih]
      by_cases e : i = xs.length - 1 - t
      · rw [if_neg (by omega), if_pos (by omega), e, h0]
      · by_cases h1 : xs.length - t ≤ i ∧ i < xs.length
        · rw [if_pos h1, if_pos (by omega)]
        · rw [if_neg h1, if_neg (by omega)]
    · rw [fill_snoc, getD_set, fill_len]
      show (if xs.length - 1 - t = i then if xs.length - 1 - t < 100 then xs.getD (xs.length - 1 - t) 0 else 0 else (fill (tms xs t)).getD i 0) = _
      by_cases e : xs.length - 1 - t = i
      · rw [if_pos e, if_pos (by omega), if_pos (by omega), e]
      · rw [if_neg e, ih]
        by_cases h1 : xs.length - t ≤ i ∧ i < xs.length
        · rw [if_pos h1, if_pos (by omega)]
        · rw [if_neg h1, if_neg (by omega)]
theorem fill_trim {xs : List Int} (ht : Tr xs) (hl : xs.length ≤ 100) : trim (fill (tms xs xs.length)) = xs := by
  refine S_inj (tr_trim _) ht ?_
  rw [S_trim]
  refine Ser.ext fun i => ?_
  rw [S_at, fill_at hl xs.length (Nat.le_refl _), S_at]
  by_cases h : i < xs.length
  · rw [if_pos (by omega)]
  · rw [if_neg (by omega), ← S_at, S_out (by omega)]
/-- no blank in a word -/
theorem lett_free (p : Nat) : 32 ∉ lett p := by
  unfold lett
  split
  · exact List.not_mem_nil
  · split
    · decide
    · intro h
      rcases List.mem_append.mp h with h | h
      · revert h; decide
      · exact TL.numL_free (.inl (by decide)) h
theorem trm_free (n p : Nat) : 32 ∉ trm n p := by
  unfold trm
  intro h
  rcases List.mem_append.mp h with h | h
  · split at h
    · exact nomatch h
    · exact TL.numL_free (.inl (by decide)) h
  · exact lett_free p h
theorem words_free : ∀ ts : List (Int × Nat), ∀ w ∈ words ts, 32 ∉ w
  | [], _, h => nomatch h
  | a :: r, w, h => by
    rcases List.mem_cons.mp h with rfl | h
    · exact trm_free _ _
    · unfold more2 at h
      obtain ⟨b, _, h⟩ := List.mem_flatMap.mp h
      rcases List.mem_cons.mp h with rfl | h
      · unfold sg; split <;> decide
      · rw [List.mem_singleton.mp h]; exact trm_free _ _
theorem more2_at : ∀ (ts : List (Int × Nat)) (i : Nat) (a : Int × Nat), ts[i]? = some a → (more2 ts)[2 * i]? = some (sg a.1) ∧ (more2 ts)[2 * i + 1]? = some (trm a.1.natAbs a.2)
  | [], _, _, h => by simp at h
  | b :: r, 0, a, h => by
    have e : b = a := by simpa using h
    subst e
    exact ⟨rfl, rfl⟩
  | b :: r, i + 1, a, h => by
    have ih := more2_at r i a (by simpa using h)
    show (sg b.1 :: trm b.1.natAbs b.2 :: more2 r)[2 * (i + 1)]? = _ ∧ (sg b.1 :: trm b.1.natAbs b.2 :: more2 r)[2 * (i + 1) + 1]? = _
    rw [show 2 * (i + 1) = 2 * i + 1 + 1 by omega]
    simp only [List.getElem?_cons_succ]
    exact ih
theorem words_at (ts : List (Int × Nat)) (i : Nat) (a : Int × Nat) (h : ts[i]? = some a) : (words ts)[2 * i]? = some (trm a.1.natAbs a.2) ∧ (0 < i → (words ts)[2 * i - 1]? = some (sg a.1)) := by
  cases ts with
  | nil => simp at h
  | cons b r =>
    cases i with
    | zero =>
      have e : b = a := by simpa using h
      subst e
      exact ⟨rfl, fun z => absurd z (by decide)⟩
    | succ i =>
      have ih := more2_at r i a (by simpa using h)
      show (trm b.1.natAbs b.2 :: more2 r)[2 * (i + 1)]? = _ ∧ (_ → (trm b.1.natAbs b.2 :: more2 r)[2 * (i + 1) - 1]? = _)
      rw [show 2 * (i + 1) = 2 * i + 1 + 1 by omega, show 2 * i + 1 + 1 - 1 = 2 * i + 1 by omega]
      simp only [List.getElem?_cons_succ]
      exact ⟨ih.2, fun _ => ih.1⟩
theorem words_len : ∀ {ts : List (Int × Nat)}, ts ≠ [] → (words ts).length + 1 = 2 * ts.length
  | [], h => absurd rfl h
  | a :: r, _ => by
    have e : ∀ r : List (Int × Nat), (more2 r).length = 2 * r.length := fun r => by
      induction r with
      | nil => rfl
      | cons b s ih =>
        show (sg b.1 :: trm b.1.natAbs b.2 :: more2 s).length = _
        simp only [List.length_cons, ih]; omega
    show (trm a.1.natAbs a.2 :: more2 r).length + 1 = 2 * (r.length + 1)
    rw [List.length_cons, e]; omega
/-- a number's first figure -/
theorem numL_head : ∀ {n : Nat}, 0 < n → ∃ c r, numL n = c :: r ∧ c ≠ 48
  | n, h => by
    by_cases h10 : n < 10
    · exact ⟨48 + n, [], TL.numL_lt h10, by omega⟩
    · obtain ⟨c, r, e, hc⟩ := numL_head (n := n / 10) (by omega)
      exact ⟨c, r ++ [48 + n % 10], by rw [TL.numL_step (by omega), e]; rfl, hc⟩
termination_by n => n
theorem trm_head {n p : Nat} (h : 0 < n) : ∃ c r, trm n p = c :: r ∧ c ≠ 48 ∧ c ≠ 45 := by
  unfold trm
  by_cases h1 : n = 1 ∧ 0 < p
  · rw [if_pos h1]
    unfold lett
    rw [if_neg (by omega)]
    split
    · exact ⟨120, [], rfl, by decide, by decide⟩
    · exact ⟨120, _, rfl, by decide, by decide⟩
  · rw [if_neg h1]
    obtain ⟨c, r, e, hc⟩ := numL_head h
    have hd := TL.numL_digits n c (by rw [e]; exact List.mem_cons_self)
    exact ⟨c, r ++ lett p, by rw [e]; rfl, hc, by omega⟩
theorem join_head {a : Int × Nat} {r : List (Int × Nat)} (h : a.1 ≠ 0) : ∃ c q, joinL [32] (words (a :: r)) = c :: q ∧ c ≠ 48 ∧ c ≠ 45 := by
  obtain ⟨c, q, e, h1, h2⟩ := trm_head (n := a.1.natAbs) (p := a.2) (Int.natAbs_pos.mpr h)
  show ∃ c q, joinL [32] (trm a.1.natAbs a.2 :: more2 r) = c :: q ∧ _
  cases hm : more2 r with
  | nil => exact ⟨c, q, by show trm a.1.natAbs a.2 = _; exact e, h1, h2⟩
  | cons b s => exact ⟨c, q ++ ([32] ++ joinL [32] (b :: s)), by show trm a.1.natAbs a.2 ++ ([32] ++ joinL [32] (b :: s)) = _; rw [e]; rfl, h1, h2⟩
theorem tms_nil {xs : List Int} (ht : Tr xs) (hl : xs.length ≤ 100) (h : tms xs xs.length = []) : xs = [] := by
  rw [← fill_trim ht hl, h]
  exact trim_rep [] 100
def sgi (n : Int) : Int := if n < 0 then -1 else 1
theorem sgi_mul (n : Int) : sgi n * (n.natAbs : Int) = n := by
  unfold sgi
  split <;> omega
theorem words_split {ts : List (Int × Nat)} (h : ts ≠ []) : TL.spl [32] 0 [] (joinL [32] (words ts)) = words ts := by
  cases ts with
  | nil => exact absurd rfl h
  | cons a r => exact SX.spl_join words_ne (words_free _)
end Pa
namespace Pa
open PySem PySem.Spec PyProof.Rows L2
local macro_rules | `(tactic| walk_at "mem") => `(tactic| first | exact .head _ | (refine .tail _ ?_; walk_at "mem"))
local macro_rules | `(tactic| walk_at "rx") => `(tactic| first
  | with_reducible exact Rx.arg (by assumption) | exact Rx.own (by walk_at "mem") | exact Rx.arg (by assumption))
local macro_rules | `(tactic| walk_at "rl") => `(tactic| first
  | with_reducible exact Rl.x (Rx.arg (by assumption)) | exact Rl.x (Rx.own (by walk_at "mem")) | exact Rl.sq (by assumption) | exact Rl.x (Rx.arg (by assumption)))
local macro_rules | `(tactic| walk_at "rt") => `(tactic| first
  | with_reducible exact Rt.x (Rx.arg (by assumption)) | exact Rt.x (Rx.own (by walk_at "mem")) | exact Rt.x (Rx.arg (by assumption)))
local macro_rules | `(tactic| walk_at "sub") => `(tactic| (repeat (first | exact .slnil | exact .refl _ | apply List.Sublist.cons_cons | apply List.Sublist.cons)))
local macro_rules | `(tactic| walk_at "ok") => `(tactic| first
  | assumption | decide | omega | exact mulL (by omega) (by omega) | exact mulR (by omega) (by omega) | (refine ⟨?_, ?_⟩ <;> omega))
local macro_rules | `(tactic| walk_at "w1") => `(tactic| first
  | ((with_reducible refine' W.var ?h ?_); (case h => rfl))
  | with_reducible refine W.c ?_
  | with_reducible refine W.op ?_
  | with_reducible refine RW.i0 ?_
  | ((with_reducible refine' RW.i1 ?h ?_); (case h => walk_at "ok"))
  | with_reducible refine RW.eqI ?_
  | with_reducible refine RW.neI ?_
  | ((with_reducible refine' RW.eqZ ?h ?h2 ?_); (case h => walk_at "rl"); (case h2 => walk_at "rl"))
  | ((with_reducible refine' RW.neZ ?h ?h2 ?_); (case h => walk_at "rl"); (case h2 => walk_at "rl"))
  | with_reducible refine RW.eqL ?_
  | with_reducible refine RW.neL ?_
  | with_reducible refine RW.inL ?_
  | with_reducible refine RW.notInL ?_
  | with_reducible refine RW.eqS ?_
  | with_reducible refine RW.isNoR ?_
  | with_reducible refine W.m1 ?_
  | (with_reducible refine ⟨⟨_, rfl⟩, ?_⟩)
  | with_reducible refine RW.isNoN ?_
  | with_reducible refine RW.notNoR ?_
  | with_reducible refine RW.notNoN ?_
  | with_reducible refine RW.neS ?_
  | ((with_reducible refine' RW.ixZ ?h ?h2 ?_); (case h => walk_at "rl"); (case h2 => walk_at "ok"))
  | ((with_reducible refine' RW.ixL ?h ?h2 ?_); (case h => walk_at "rl"); (case h2 => rfl))
  | ((with_reducible refine' RW.ixT ?h ?h2 ?_); (case h => walk_at "rt"); (case h2 => rfl))
  | with_reducible refine W.un ?_
  | with_reducible refine RU.int ?_
  | with_reducible refine WA.nil ?_
  | with_reducible refine WA.cons ?_
  | with_reducible refine W.cb ?_
  | with_reducible refine W.call ?_
  | ((with_reducible refine' RC.lenZ ?h ?_); (case h => walk_at "rl"))
  | ((with_reducible refine' RC.len ?h ?_); (case h => walk_at "rl"))
  | ((with_reducible refine' RC.lenT ?h ?_); (case h => walk_at "rt"))
  | ((with_reducible refine' RC.lenX ?h ?_); (case h => walk_at "ok"))
  | ((with_reducible refine' RC.lenS ?h ?_); (case h => walk_at "ok"))
  | with_reducible refine RC.abs ?_
  | with_reducible refine RC.max2 ?_
  | with_reducible refine RC.min2 ?_
  | ((with_reducible refine' RC.listL ?h ?_); (case h => walk_at "rl"))
  | (with_reducible refine W.lst0 ?_)
  | (with_reducible refine W.lst1 ?_)
  | (with_reducible refine W.lst ?_)
  | (with_reducible refine W.tup ?_)
  | (with_reducible refine W.sl ?_)
  | (with_reducible refine WO.no ?_)
  | (with_reducible refine WO.part ?_)
  | ((with_reducible refine' RS.take ?h ?h2 ?_); (case h => walk_at "rl"); (case h2 => walk_at "ok"))
  | ((with_reducible refine' RS.drop ?h ?h2 ?_); (case h => walk_at "rl"); (case h2 => walk_at "ok"))
  | with_reducible refine RC.isiII ?_
  | with_reducible refine RC.isiIB ?_
  | ((with_reducible refine' RC.isiLL ?h ?_); (case h => walk_at "rx"))
  | ((with_reducible refine' RC.isiTT ?h ?_); (case h => walk_at "rx"))
  | with_reducible refine WT.test ?_
  | with_reducible refine WT.b ?_
  | with_reducible refine WT.not ?_
  | with_reducible refine WT.and ?_
  | with_reducible refine WT.or ?_
  | with_reducible refine W.andV ?_
  | with_reducible refine W.orV ?_
  | with_reducible refine W.notV ?_
  | with_reducible refine W.chain ?_
  | with_reducible refine S.seq ?_
  | ((with_reducible refine Un.nx ?_); (with_reducible refine UU.zero ?_))
  | ((with_reducible refine Un.nx ?_); (with_reducible refine UU.succ ?_))
  | with_reducible refine UU.succ ?_
  | with_reducible refine UU.zero ?_
  | with_reducible refine S.asg ?_
  | with_reducible refine S.dropS ?_
  | with_reducible refine S.ret ?_
  | with_reducible refine S.if_ ?_
  | with_reducible refine S.next ?_
  | (with_reducible refine ⟨_, rfl, ?_⟩)
  | refine And.intro (fun _ => ?_) (fun h => Bool.noConfusion h)
  | refine And.intro (fun h => Bool.noConfusion h) (fun _ => ?_))
local macro_rules | `(tactic| walk_at "v1") => `(tactic| first
  | ((with_reducible refine' W.var ?h ?_); (case h => rfl))
  | with_reducible refine W.c ?_
  | with_reducible refine W.op ?_
  | with_reducible refine RW.i0 ?_
  | ((with_reducible refine' RW.i1 ?h ?_); (case h => walk_at "ok"))
  | with_reducible refine RW.eqI ?_
  | with_reducible refine RW.neI ?_
  | ((with_reducible refine' RW.eqZ ?h ?h2 ?_); (case h => walk_at "rl"); (case h2 => walk_at "rl"))
  | ((with_reducible refine' RW.neZ ?h ?h2 ?_); (case h => walk_at "rl"); (case h2 => walk_at "rl"))
  | with_reducible refine RW.eqL ?_
  | with_reducible refine RW.neL ?_
  | with_reducible refine RW.inL ?_
  | with_reducible refine RW.notInL ?_
  | with_reducible refine RW.eqS ?_
  | with_reducible refine RW.isNoR ?_
  | with_reducible refine W.m1 ?_
  | (with_reducible refine ⟨⟨_, rfl⟩, ?_⟩)
  | with_reducible refine RW.isNoN ?_
  | with_reducible refine RW.notNoR ?_
  | with_reducible refine RW.notNoN ?_
  | with_reducible refine RW.neS ?_
  | ((with_reducible refine' RW.ixZ ?h ?h2 ?_); (case h => walk_at "rl"); (case h2 => walk_at "ok"))
  | ((with_reducible refine' RW.ixL ?h ?h2 ?_); (case h => walk_at "rl"); (case h2 => rfl))
  | ((with_reducible refine' RW.ixT ?h ?h2 ?_); (case h => walk_at "rt"); (case h2 => rfl))
  | with_reducible refine W.un ?_
  | with_reducible refine RU.int ?_
  | with_reducible refine WA.nil ?_
  | with_reducible refine WA.cons ?_
  | with_reducible refine W.cb ?_
  | with_reducible refine W.call ?_
  | ((with_reducible refine' RC.lenZ ?h ?_); (case h => walk_at "rl"))
  | ((with_reducible refine' RC.len ?h ?_); (case h => walk_at "rl"))
  | ((with_reducible refine' RC.lenT ?h ?_); (case h => walk_at "rt"))
  | ((with_reducible refine' RC.lenX ?h ?_); (case h => walk_at "ok"))
  | ((with_reducible refine' RC.lenS ?h ?_); (case h => walk_at "ok"))
  | with_reducible refine RC.abs ?_
  | with_reducible refine RC.max2 ?_
  | with_reducible refine RC.min2 ?_
  | ((with_reducible refine' RC.listL ?h ?_); (case h => walk_at "rl"))
  | (with_reducible refine W.lst0 ?_)
  | (with_reducible refine W.lst1 ?_)
  | (with_reducible refine W.lst ?_)
  | (with_reducible refine W.tup ?_)
  | (with_reducible refine W.sl ?_)
  | (with_reducible refine WO.no ?_)
  | (with_reducible refine WO.part ?_)
  | ((with_reducible refine' RS.take ?h ?h2 ?_); (case h => walk_at "rl"); (case h2 => walk_at "ok"))
  | ((with_reducible refine' RS.drop ?h ?h2 ?_); (case h => walk_at "rl"); (case h2 => walk_at "ok"))
  | with_reducible refine RC.isiII ?_
  | with_reducible refine RC.isiIB ?_
  | ((with_reducible refine' RC.isiLL ?h ?_); (case h => walk_at "rx"))
  | ((with_reducible refine' RC.isiTT ?h ?_); (case h => walk_at "rx"))
  | with_reducible refine WT.test ?_
  | with_reducible refine WT.b ?_
  | with_reducible refine WT.not ?_
  | with_reducible refine WT.and ?_
  | with_reducible refine WT.or ?_
  | with_reducible refine W.andV ?_
  | with_reducible refine W.orV ?_
  | with_reducible refine W.notV ?_
  | with_reducible refine W.chain ?_
  | with_reducible refine S.seq ?_
  | ((with_reducible refine Un.nx ?_); (with_reducible refine UU.zero ?_))
  | ((with_reducible refine Un.nx ?_); (with_reducible refine UU.succ ?_))
  | with_reducible refine UU.succ ?_
  | with_reducible refine UU.zero ?_
  | with_reducible refine S.asg ?_
  | with_reducible refine S.dropS ?_
  | with_reducible refine S.ret ?_
  | with_reducible refine S.next ?_
  | (with_reducible refine ⟨_, rfl, ?_⟩)
  | refine And.intro (fun _ => ?_) (fun h => Bool.noConfusion h)
  | refine And.intro (fun h => Bool.noConfusion h) (fun _ => ?_))
local macro_rules | `(tactic| walk_at "w") => `(tactic| (repeat walk_at "w1"))
local macro_rules | `(tactic| walk_at "w0") => `(tactic| (repeat walk_at "v1"))
local macro_rules | `(tactic| walk_at "if") => `(tactic| (refine And.intro (fun hb => ?_) (fun hb => ?_) <;> (try simp only [decide_eq_true_eq, decide_eq_false_iff_not, Bool.not_eq_true', Bool.not_eq_false', Bool.false_eq_true, Bool.true_eq_false, Bool.not_true, Bool.not_false, eq_self, not_true_eq_false, not_false_eq_true, ne_eq] at hb)))
local macro_rules | `(tactic| walk_at "fin") => `(tactic| first
  | exact NR.sub (by assumption) (by walk_at "sub")
  | exact NR.sub (by first | assumption | (apply_assumption)) (by walk_at "sub"))
local macro_rules | `(tactic| walk_at "d") => `(tactic| (try dsimp only [List.set, wipe, List.map]))
local macro_rules | `(tactic| walk_at "lp") => `(tactic| refine Lp.nx ?_)
local macro_rules | `(tactic| walk_at "app") => `(tactic| ((with_reducible refine S.app ?_); (walk_at "w0"); (first | refine ⟨⟨_, by walk_at "rl"⟩, ?_⟩ | refine ⟨_, rfl, ⟨_, by walk_at "rl"⟩, ?_⟩); (walk_at "w0"); (first | refine ⟨_, 0, rfl, ?_, ?_⟩ | refine ⟨_, 1, rfl, ?_, ?_⟩ | refine ⟨_, 2, rfl, ?_, ?_⟩ | refine ⟨_, 3, rfl, ?_, ?_⟩ | refine ⟨_, 4, rfl, ?_, ?_⟩ | refine ⟨_, 5, rfl, ?_, ?_⟩ | refine ⟨_, 6, rfl, ?_, ?_⟩ | refine ⟨_, 7, rfl, ?_, ?_⟩ | refine ⟨_, 8, rfl, ?_, ?_⟩ | refine ⟨_, 9, rfl, ?_, ?_⟩ | refine ⟨_, 10, rfl, ?_, ?_⟩ | refine ⟨_, 11, rfl, ?_, ?_⟩ | refine ⟨_, 12, rfl, ?_, ?_⟩ | refine ⟨_, 13, rfl, ?_, ?_⟩ | refine ⟨_, 14, rfl, ?_, ?_⟩ | refine ⟨_, 15, rfl, ?_, ?_⟩ | refine ⟨_, 16, rfl, ?_, ?_⟩ | refine ⟨_, 17, rfl, ?_, ?_⟩ | refine ⟨_, 18, rfl, ?_, ?_⟩ | refine ⟨_, 19, rfl, ?_, ?_⟩ | refine ⟨_, 20, rfl, ?_, ?_⟩ | refine ⟨_, 21, rfl, ?_, ?_⟩ | refine ⟨_, 22, rfl, ?_, ?_⟩ | refine ⟨_, 23, rfl, ?_, ?_⟩)))
local macro_rules | `(tactic| walk_at "set1") => `(tactic| first | refine ⟨_, _, _, 0, rfl, rfl, rfl, ?_, ?_⟩ | refine ⟨_, _, _, 1, rfl, rfl, rfl, ?_, ?_⟩ | refine ⟨_, _, _, 2, rfl, rfl, rfl, ?_, ?_⟩ | refine ⟨_, _, _, 3, rfl, rfl, rfl, ?_, ?_⟩ | refine ⟨_, _, _, 4, rfl, rfl, rfl, ?_, ?_⟩ | refine ⟨_, _, _, 5, rfl, rfl, rfl, ?_, ?_⟩ | refine ⟨_, _, _, 6, rfl, rfl, rfl, ?_, ?_⟩ | refine ⟨_, _, _, 7, rfl, rfl, rfl, ?_, ?_⟩ | refine ⟨_, _, _, 8, rfl, rfl, rfl, ?_, ?_⟩ | refine ⟨_, _, _, 9, rfl, rfl, rfl, ?_, ?_⟩ | refine ⟨_, _, _, 10, rfl, rfl, rfl, ?_, ?_⟩ | refine ⟨_, _, _, 11, rfl, rfl, rfl, ?_, ?_⟩ | refine ⟨_, _, _, 12, rfl, rfl, rfl, ?_, ?_⟩ | refine ⟨_, _, _, 13, rfl, rfl, rfl, ?_, ?_⟩ | refine ⟨_, _, _, 14, rfl, rfl, rfl, ?_, ?_⟩ | refine ⟨_, _, _, 15, rfl, rfl, rfl, ?_, ?_⟩ | refine ⟨_, _, _, 16, rfl, rfl, rfl, ?_, ?_⟩ | refine ⟨_, _, _, 17, rfl, rfl, rfl, ?_, ?_⟩ | refine ⟨_, _, _, 18, rfl, rfl, rfl, ?_, ?_⟩ | refine ⟨_, _, _, 19, rfl, rfl, rfl, ?_, ?_⟩ | refine ⟨_, _, _, 20, rfl, rfl, rfl, ?_, ?_⟩ | refine ⟨_, _, _, 21, rfl, rfl, rfl, ?_, ?_⟩ | refine ⟨_, _, _, 22, rfl, rfl, rfl, ?_, ?_⟩ | refine ⟨_, _, _, 23, rfl, rfl, rfl, ?_, ?_⟩)
local macro_rules | `(tactic| walk_at "un") => `(tactic| refine Un.nx ?_)
def topS (i : Nat) : Stmt := PySem.Challenge.pw_polyarith_k10_written.main.body.getD i (.Pass ⟨0, 0, 0, 0⟩)
abbrev s_trimmed : Stmt := topS 4
theorem sc_trimmed : FnScope ["row", "size"] ["row"] (defScope s_trimmed) := ⟨rfl, rfl, rfl, by decide +kernel, rfl, by decide +kernel, by decide +kernel⟩
abbrev s_letters : Stmt := topS 7
theorem sc_letters : FnScope ["power"] ["power"] (defScope s_letters) := ⟨rfl, rfl, rfl, by decide +kernel, rfl, by decide +kernel, by decide +kernel⟩
abbrev s_term : Stmt := topS 8
theorem sc_term : FnScope ["number", "power"] ["number", "power"] (defScope s_term) := ⟨rfl, rfl, rfl, by decide +kernel, rfl, by decide +kernel, by decide +kernel⟩
abbrev s_shown : Stmt := topS 9
theorem sc_shown : FnScope ["row", "found", "step", "power", "number", "sign"] ["row"] (defScope s_shown) := ⟨rfl, rfl, rfl, by decide +kernel, rfl, by decide +kernel, by decide +kernel⟩
abbrev s_whole_of : Stmt := topS 10
theorem sc_whole_of : FnScope ["figures", "sign"] ["figures"] (defScope s_whole_of) := ⟨rfl, rfl, rfl, by decide +kernel, rfl, by decide +kernel, by decide +kernel⟩
abbrev s_power_of : Stmt := topS 11
theorem sc_power_of : FnScope ["line"] ["line"] (defScope s_power_of) := ⟨rfl, rfl, rfl, by decide +kernel, rfl, by decide +kernel, by decide +kernel⟩
abbrev s_read_term : Stmt := topS 12
theorem sc_read_term : FnScope ["line", "figures", "power", "number"] ["line"] (defScope s_read_term) := ⟨rfl, rfl, rfl, by decide +kernel, rfl, by decide +kernel, by decide +kernel⟩
abbrev s_read : Stmt := topS 13
theorem sc_read : FnScope ["line", "sign", "words", "row", "last", "k", "told"] ["line"] (defScope s_read) := ⟨rfl, rfl, rfl, by decide +kernel, rfl, by decide +kernel, by decide +kernel⟩
abbrev s__law_whole : Stmt := topS 15
theorem sc__law_whole : FnScope ["_law_found"] ["_law_found"] (defScope s__law_whole) := ⟨rfl, rfl, rfl, by decide +kernel, rfl, by decide +kernel, by decide +kernel⟩
abbrev s__law_cell_at : Stmt := topS 16
theorem sc__law_cell_at : FnScope ["_law_script", "_law_k"] ["_law_script", "_law_k"] (defScope s__law_cell_at) := ⟨rfl, rfl, rfl, by decide +kernel, rfl, by decide +kernel, by decide +kernel⟩
abbrev s__law_trim : Stmt := topS 17
theorem sc__law_trim : FnScope ["_law_row", "_law_size"] ["_law_row"] (defScope s__law_trim) := ⟨rfl, rfl, rfl, by decide +kernel, rfl, by decide +kernel, by decide +kernel⟩
abbrev s__law_same : Stmt := topS 18
theorem sc__law_same : FnScope ["_law_found", "_law_due", "_law_k"] ["_law_found", "_law_due"] (defScope s__law_same) := ⟨rfl, rfl, rfl, by decide +kernel, rfl, by decide +kernel, by decide +kernel⟩
abbrev s__law_number : Stmt := topS 19
theorem sc__law_number : FnScope ["_law_cell"] ["_law_cell"] (defScope s__law_number) := ⟨rfl, rfl, rfl, by decide +kernel, rfl, by decide +kernel, by decide +kernel⟩
abbrev s__law_drawn : Stmt := topS 20
theorem sc__law_drawn : FnScope ["_law_script", "_law_place", "_law_size", "_law_many", "_law_row", "_law_k"] ["_law_script", "_law_place", "_law_size", "_law_many"] (defScope s__law_drawn) := ⟨rfl, rfl, rfl, by decide +kernel, rfl, by decide +kernel, by decide +kernel⟩
abbrev s__law_written : Stmt := topS 21
theorem sc__law_written : FnScope ["_law_row", "_law_found", "_law_step", "_law_power", "_law_word"] ["_law_row"] (defScope s__law_written) := ⟨rfl, rfl, rfl, by decide +kernel, rfl, by decide +kernel, by decide +kernel⟩
abbrev s_law : Stmt := topS 22
theorem sc_law : FnScope ["_law_script", "_law_first", "_law_many", "_law_row", "_law_handed", "_law_found"] ["_law_script"] (defScope s_law) := ⟨rfl, rfl, rfl, by decide +kernel, rfl, by decide +kernel, by decide +kernel⟩
structure Txt (K : PySem.W.Frag) (mg : Str → Option Value) where
  a_trimmed : Addr
  d_trimmed : FuncData
  F_trimmed : Fun K "trimmed" "trimmed" s_trimmed a_trimmed d_trimmed
  m_trimmed : mg "trimmed" = some (.ref a_trimmed)
  b_trimmed : Binds K d_trimmed ["row"] []
  a_letters : Addr
  d_letters : FuncData
  F_letters : Fun K "letters" "letters" s_letters a_letters d_letters
  m_letters : mg "letters" = some (.ref a_letters)
  b_letters : Binds K d_letters ["power"] []
  a_term : Addr
  d_term : FuncData
  F_term : Fun K "term" "term" s_term a_term d_term
  m_term : mg "term" = some (.ref a_term)
  b_term : Binds K d_term ["number", "power"] []
  a_shown : Addr
  d_shown : FuncData
  F_shown : Fun K "shown" "shown" s_shown a_shown d_shown
  m_shown : mg "shown" = some (.ref a_shown)
  b_shown : Binds K d_shown ["row"] []
  a_whole_of : Addr
  d_whole_of : FuncData
  F_whole_of : Fun K "whole_of" "whole_of" s_whole_of a_whole_of d_whole_of
  m_whole_of : mg "whole_of" = some (.ref a_whole_of)
  b_whole_of : Binds K d_whole_of ["figures"] []
  a_power_of : Addr
  d_power_of : FuncData
  F_power_of : Fun K "power_of" "power_of" s_power_of a_power_of d_power_of
  m_power_of : mg "power_of" = some (.ref a_power_of)
  b_power_of : Binds K d_power_of ["line"] []
  a_read_term : Addr
  d_read_term : FuncData
  F_read_term : Fun K "read_term" "read_term" s_read_term a_read_term d_read_term
  m_read_term : mg "read_term" = some (.ref a_read_term)
  b_read_term : Binds K d_read_term ["line"] []
  a_read : Addr
  d_read : FuncData
  F_read : Fun K "read" "read" s_read a_read d_read
  m_read : mg "read" = some (.ref a_read)
  b_read : Binds K d_read ["line"] []
  a__law_whole : Addr
  d__law_whole : FuncData
  F__law_whole : Fun K "_law_whole" "_law_whole" s__law_whole a__law_whole d__law_whole
  m__law_whole : mg "_law_whole" = some (.ref a__law_whole)
  b__law_whole : Binds K d__law_whole ["_law_found"] []
  a__law_cell_at : Addr
  d__law_cell_at : FuncData
  F__law_cell_at : Fun K "_law_cell_at" "_law_cell_at" s__law_cell_at a__law_cell_at d__law_cell_at
  m__law_cell_at : mg "_law_cell_at" = some (.ref a__law_cell_at)
  b__law_cell_at : Binds K d__law_cell_at ["_law_script", "_law_k"] []
  a__law_trim : Addr
  d__law_trim : FuncData
  F__law_trim : Fun K "_law_trim" "_law_trim" s__law_trim a__law_trim d__law_trim
  m__law_trim : mg "_law_trim" = some (.ref a__law_trim)
  b__law_trim : Binds K d__law_trim ["_law_row"] []
  a__law_same : Addr
  d__law_same : FuncData
  F__law_same : Fun K "_law_same" "_law_same" s__law_same a__law_same d__law_same
  m__law_same : mg "_law_same" = some (.ref a__law_same)
  b__law_same : Binds K d__law_same ["_law_found", "_law_due"] []
  a__law_number : Addr
  d__law_number : FuncData
  F__law_number : Fun K "_law_number" "_law_number" s__law_number a__law_number d__law_number
  m__law_number : mg "_law_number" = some (.ref a__law_number)
  b__law_number : Binds K d__law_number ["_law_cell"] []
  a__law_drawn : Addr
  d__law_drawn : FuncData
  F__law_drawn : Fun K "_law_drawn" "_law_drawn" s__law_drawn a__law_drawn d__law_drawn
  m__law_drawn : mg "_law_drawn" = some (.ref a__law_drawn)
  b__law_drawn : Binds K d__law_drawn ["_law_script", "_law_place", "_law_size", "_law_many"] []
  a__law_written : Addr
  d__law_written : FuncData
  F__law_written : Fun K "_law_written" "_law_written" s__law_written a__law_written d__law_written
  m__law_written : mg "_law_written" = some (.ref a__law_written)
  b__law_written : Binds K d__law_written ["_law_row"] []
  a_law : Addr
  d_law : FuncData
  F_law : Fun K "law" "law" s_law a_law d_law
  m_law : mg "law" = some (.ref a_law)
  b_law : Binds K d_law ["_law_script"] []
  A_PolyError : Addr
  e_PolyError : Err K mg "PolyError" A_PolyError
  A_NotWritten : Addr
  e_NotWritten : Err K mg "NotWritten" A_NotWritten
  g_FIGURES : ∃ t, mg "FIGURES" = some (.str "0123456789" t)
  z_ValueError : mg "ValueError" = none
  z_abs : mg "abs" = none
  z_bool : mg "bool" = none
  z_int : mg "int" = none
  z_isinstance : mg "isinstance" = none
  z_len : mg "len" = none
  z_list : mg "list" = none
  z_range : mg "range" = none
  z_str : mg "str" = none

section
variable {P : Program} {w : World} {K : PySem.W.Frag} {mg : Str → Option Value} {base : Heap}
def sp_trimmed : Sp := fun vs H Q _ => ∃ (a : Addr) (xs : List Int), vs = [.ref a] ∧ H a = some (.lst (zV xs)) ∧ xs.length ≤ 100000 ∧ ∀ p, NR Q (.ref p) H [(p, .lst (zV (trim xs)))]
theorem WC_trimmed {H0 : Hp} {fs : Fs} {Φ : CV} {a : Addr} {xs : List Int} (h : Rx H0 fs a (.lst (zV xs))) (hl : xs.length ≤ 100000) (q : ∀ p, Φ (.ref p) ((p, .lst (zV (trim xs))) :: fs)) : WC sp_trimmed [.ref a] H0 fs Φ :=
  fun H k Q E c => ⟨a, xs, rfl, h H k, hl, fun p H' k' => c _ _ _ (k.app k') (q p)⟩
theorem ok_trimmed (T : Txt K mg) : FnOk P w K mg base CX0 1 T.a_trimmed T.d_trimmed ["row"] sp_trimmed := by
  refine T.F_trimmed.ok sc_trimmed (fun vs H Q E h => ?_) (fun cdv A outer s H vs Q E hr h => ?_)
  · obtain ⟨a, xs, rfl, _⟩ := h; rfl
  · obtain ⟨a, xs, rfl, hA, hl, q⟩ := h
    refine ⟨_, (pss_cons (ps_set (i := 1) sc_trimmed.nd rfl (Or.inl rfl) (pe_callB cLen (by rfl) T.z_len PySem.boot_len (pa_cons (pv 0) pa_nil)))
      (pss_cons (ps_while PassesOwn.never (PW.pt (pw_and (pt_cmpR op_gt (pv 1) pe_int (nomark _)) (pw_and1 (pt_cmpR op_eq (pe_ix ix_list (pv 0) (pe_op op_sub (pv 1) pe_int) (fun _ _ => rfl)) pe_int (nomark _))))) (pss_one (ps_set (i := 1) sc_trimmed.nd rfl (Or.inl rfl) (pe_op op_sub (pv 1) pe_int))))
      (pss_one (ps_ret (pe_slice sl_list (pv 0) po_none (po_some (pv 1))))))), ?_⟩
    refine N.go (σ := [some (.ref a), none]) ?_
    walk_at "w"
    refine S.while_ (fun m σ f => σ = [some (.ref a), some (.int (m : Int))] ∧ f = [] ∧ m ≤ xs.length ∧ trim xs = trim (xs.take m)) xs.length ⟨rfl, rfl, Nat.le_refl _, by rw [List.take_length]⟩ ?_
    rintro m σ f ⟨rfl, rfl, hm, ht⟩
    walk_at "w"
    walk_at "if"
    · walk_at "w"
      walk_at "if"
      · -- one nought less
        walk_at "w"
        rename_i h1 h2
        have em : ((m : Int) - 1) = ((m - 1 : Nat) : Int) := by omega
        rw [em]
        refine Wl.nx (m' := m - 1) (by omega) ⟨rfl, rfl, by omega, ?_⟩
        rw [ht]
        have e2 : m = (m - 1) + 1 := by omega
        rw [em, gat_nat] at h2
        rw [e2, take_succ_getD (by omega : m - 1 < xs.length), h2, trim_zero]
        rfl
      · walk_at "w"
        rename_i h1 h2
        intro l
        have em : ((m : Int) - 1) = ((m - 1 : Nat) : Int) := by omega
        have e2 : m = (m - 1) + 1 := by omega
        rw [em, gat_nat] at h2
        have e3 : trim xs = xs.take m := by
          rw [ht, e2, take_succ_getD (by omega : m - 1 < xs.length), trim_last _ h2]
        rw [e3] at q
        have e4 : ((m : Int)).toNat = m := by simp
        rw [e4]
        exact NR.sub (q l) (by walk_at "sub")
    · walk_at "w"
      rename_i h1
      intro l
      have e0 : m = 0 := by omega
      subst e0
      have e3 : trim xs = [] := by rw [ht]; rfl
      rw [e3] at q
      exact NR.sub (q l) (by walk_at "sub")

end

section
variable {P : Program} {w : World} {K : PySem.W.Frag} {mg : Str → Option Value} {base : Heap}
def sp_letters : Sp := fun vs H Q _ => ∃ (p : Nat), vs = [.int (p : Int)] ∧ p < 1000 ∧ NR Q (.str (tx (lett p))) H []
theorem WC_letters {H0 : Hp} {fs : Fs} {Φ : CV} {p : Nat} (hp : p < 1000) (q : Φ (.str (tx (lett p))) fs) : WC sp_letters [.int (p : Int)] H0 fs Φ := fun H k Q E cc => ⟨p, rfl, hp, fun H' k' => cc _ _ _ (k.app k') q⟩
theorem num_log {p : Nat} (h : p < 2 ^ 210) : p.log2 < 1920 := by
  by_cases h0 : p = 0
  · subst h0; decide
  · have := (Nat.log2_lt h0).mpr h
    omega
theorem ok_letters (T : Txt K mg) : FnOk P w K mg base CX0 1 T.a_letters T.d_letters ["power"] sp_letters := by
  refine T.F_letters.ok sc_letters (fun vs H Q E h => ?_) (fun cdv A outer s H vs Q E hr h => ?_)
  · obtain ⟨p, rfl, _⟩ := h; rfl
  · obtain ⟨p, rfl, hp, q⟩ := h
    refine ⟨_, (pss_cons (ps_if (pt_cmpR op_eq (pv 0) pe_int (nomark _)) (pss_one (ps_ret (pe_strL (l := []) (by decide +kernel)))) pss_nil)
      (pss_cons (ps_if (pt_cmpR op_eq (pv 0) pe_int (nomark _)) (pss_one (ps_ret (pe_strL (l := [120]) (by decide +kernel)))) pss_nil)
      (pss_one (ps_ret (pe_op op_addX (pe_strL (l := [120, 94]) (by decide +kernel)) (pe_callTy cStr (by rfl) T.z_str (by decide +kernel) (pa_cons (pv 0) pa_nil))))))), ?_⟩
    refine N.go (σ := [some (.int (p : Int))]) ?_
    unfold lett at q
    have hlen := TL.numL_len (n := p) (k := 3) (by decide) (by omega)
    walk_at "w"
    by_cases h0 : p = 0
    · rw [if_pos h0] at q
      rw [decide_eq_true (show (p : Int) = 0 by omega)]
      walk_at "w"
      exact NR.sub q (by walk_at "sub")
    · rw [if_neg h0] at q
      rw [decide_eq_false (show ¬ (p : Int) = 0 by omega)]
      walk_at "w"
      by_cases h1 : p = 1
      · rw [if_pos h1] at q
        rw [decide_eq_true (show (p : Int) = 1 by omega)]
        walk_at "w"
        exact NR.sub q (by walk_at "sub")
      · rw [if_neg h1] at q
        rw [decide_eq_false (show ¬ (p : Int) = 1 by omega)]
        walk_at "w"
        refine RC.strI (num_log (Nat.lt_of_lt_of_le hp (by decide))) ?_
        refine RW.addS (by simp only [List.length_cons, List.length_nil]; omega) ?_
        exact NR.sub q (by walk_at "sub")

end

section
variable {P : Program} {w : World} {K : PySem.W.Frag} {mg : Str → Option Value} {base : Heap}
def sp_term : Sp := fun vs H Q _ => ∃ (n p : Nat), vs = [.int (n : Int), .int (p : Int)] ∧ n < 2 ^ 210 ∧ p < 1000 ∧ NR Q (.str (tx (trm n p))) H []
theorem WC_term {H0 : Hp} {fs : Fs} {Φ : CV} {n p : Nat} (hn : n < 2 ^ 210) (hp : p < 1000) (q : Φ (.str (tx (trm n p))) fs) : WC sp_term [.int (n : Int), .int (p : Int)] H0 fs Φ := fun H k Q E cc => ⟨n, p, rfl, hn, hp, fun H' k' => cc _ _ _ (k.app k') q⟩
theorem ok_term (T : Txt K mg) : FnOk P w K mg base CX0 2 T.a_term T.d_term ["number", "power"] sp_term := by
  refine T.F_term.ok sc_term (fun vs H Q E h => ?_) (fun cdv A outer s H vs Q E hr h => ?_)
  · obtain ⟨n, p, rfl, _⟩ := h; rfl
  · obtain ⟨n, p, rfl, hn, hp, q⟩ := h
    refine ⟨_, (pss_cons (ps_if (PW.pt (pw_and (pt_cmpR op_eq (pv 0) pe_int (nomark _)) (pw_and1 (pt_cmpR op_gt (pv 1) pe_int (nomark _))))) (pss_one (ps_ret (pe_call (ok_letters T) (hr.mono (by decide)) (by rfl) T.m_letters T.F_letters.kp T.b_letters .nil pass0 (pa_cons (pv 1) pa_nil)))) pss_nil)
      (pss_one (ps_ret (pe_op op_addX (pe_callTy cStr (by rfl) T.z_str (by decide +kernel) (pa_cons (pv 0) pa_nil)) (pe_call (ok_letters T) (hr.mono (by decide)) (by rfl) T.m_letters T.F_letters.kp T.b_letters .nil pass0 (pa_cons (pv 1) pa_nil)))))), ?_⟩
    refine N.go (σ := [some (.int (n : Int)), some (.int (p : Int))]) ?_
    unfold trm at q
    have l1 := numL_len64 hn
    have l2 := lett_len hp
    walk_at "w"
    by_cases h1 : n = 1
    · rw [decide_eq_true (show (n : Int) = 1 by omega)]
      walk_at "w"
      by_cases h2 : 0 < p
      · rw [decide_eq_true (show (0 : Int) < (p : Int) by omega)]
        rw [if_pos ⟨h1, h2⟩] at q
        walk_at "w"
        refine WC_letters hp ?_
        exact NR.sub q (by walk_at "sub")
      · rw [decide_eq_false (show ¬ (0 : Int) < (p : Int) by omega)]
        walk_at "w"
        rw [if_neg (fun z => h2 z.2)] at q
        refine RC.strI (num_log hn) ?_
        walk_at "w"
        refine WC_letters hp ?_
        refine RW.addS (by omega) ?_
        exact NR.sub q (by walk_at "sub")
    · rw [decide_eq_false (show ¬ (n : Int) = 1 by omega)]
      walk_at "w"
      rw [if_neg (fun z => h1 z.1)] at q
      refine RC.strI (num_log hn) ?_
      walk_at "w"
      refine WC_letters hp ?_
      refine RW.addS (by omega) ?_
      exact NR.sub q (by walk_at "sub")

end

section
variable {P : Program} {w : World} {K : PySem.W.Frag} {mg : Str → Option Value} {base : Heap}
def sp_shown : Sp := fun vs H Q _ => ∃ (a : Addr) (xs : List Int), vs = [.ref a] ∧ H a = some (.lst (zV xs)) ∧ xs.length ≤ 900 ∧ BdL 210 xs ∧ NR Q (.str (tx (wr xs))) H []
theorem WC_shown {H0 : Hp} {fs : Fs} {Φ : CV} {a : Addr} {xs : List Int} (h : Rx H0 fs a (.lst (zV xs))) (hl : xs.length ≤ 900) (hb : BdL 210 xs) (q : Φ (.str (tx (wr xs))) fs) : WC sp_shown [.ref a] H0 fs Φ := fun H k Q E cc => ⟨a, xs, rfl, h H k, hl, hb, fun H' k' => cc _ _ _ (k.app k') q⟩
theorem ok_shown (T : Txt K mg) : FnOk P w K mg base CX0 3 T.a_shown T.d_shown ["row"] sp_shown := by
  refine T.F_shown.ok sc_shown (fun vs H Q E h => ?_) (fun cdv A outer s H vs Q E hr h => ?_)
  · obtain ⟨a, xs, rfl, _⟩ := h; rfl
  · obtain ⟨a, xs, rfl, hA, hl, hb, q⟩ := h
    refine ⟨_, (pss_cons (ps_set (i := 1) sc_shown.nd rfl (Or.inl rfl) (pe_strL (l := []) (by decide +kernel)))
      (pss_cons (ps_for PassesOwn.never rfl (pi_range1 rfl T.z_range (pa_cons (pe_callB cLen (by rfl) T.z_len PySem.boot_len (pa_cons (pv 0) pa_nil)) pa_nil)) (pg_name (i := 2) sc_shown.nd rfl (Or.inl rfl)) (pss_cons (ps_set (i := 3) sc_shown.nd rfl (Or.inl rfl) (pe_op op_sub (pe_op op_sub (pe_callB cLen (by rfl) T.z_len PySem.boot_len (pa_cons (pv 0) pa_nil)) pe_int) (pv 2)))
      (pss_cons (ps_set (i := 4) sc_shown.nd rfl (Or.inl rfl) (pe_ix ix_list (pv 0) (pv 3) (fun _ _ => rfl)))
      (pss_one (ps_if (pt_cmpR op_ne (pv 4) pe_int (nomark _)) (pss_cons (ps_set (i := 5) sc_shown.nd rfl (Or.inl rfl) (pe_strL (l := [32, 43, 32]) (by decide +kernel)))
      (pss_cons (ps_if (pt_cmpR op_lt (pv 4) pe_int (nomark _)) (pss_one (ps_set (i := 5) sc_shown.nd rfl (Or.inl rfl) (pe_strL (l := [32, 45, 32]) (by decide +kernel)))) pss_nil)
      (pss_cons (ps_if (PW.pt (pw_and (pt_cmpR op_eq (pv 1) (pe_strL (l := []) (by decide +kernel)) (nomark _)) (pw_and1 (pt_cmpR op_lt (pv 4) pe_int (nomark _))))) (pss_one (ps_set (i := 5) sc_shown.nd rfl (Or.inl rfl) (pe_strL (l := [45]) (by decide +kernel)))) pss_nil)
      (pss_cons (ps_if (PW.pt (pw_and (pt_cmpR op_eq (pv 1) (pe_strL (l := []) (by decide +kernel)) (nomark _)) (pw_and1 (pt_cmpR op_gt (pv 4) pe_int (nomark _))))) (pss_one (ps_set (i := 5) sc_shown.nd rfl (Or.inl rfl) (pe_strL (l := []) (by decide +kernel)))) pss_nil)
      (pss_one (ps_set (i := 1) sc_shown.nd rfl (Or.inl rfl) (pe_op op_addX (pe_op op_addX (pv 1) (pv 5)) (pe_call (ok_term T) (hr.mono (by decide)) (by rfl) T.m_term T.F_term.kp T.b_term .nil pass0 (pa_cons (pe_callB cAbs (by rfl) T.z_abs (by decide +kernel) (pa_cons (pv 4) pa_nil)) (pa_cons (pv 3) pa_nil)))))))))) pss_nil)))))
      (pss_cons (ps_if (pt_cmpR op_eq (pv 1) (pe_strL (l := []) (by decide +kernel)) (nomark _)) (pss_one (ps_ret (pe_strL (l := [48]) (by decide +kernel)))) pss_nil)
      (pss_one (ps_ret (pv 1)))))), ?_⟩
    refine N.go (σ := [some (.ref a), none, none, none, none, none]) ?_
    walk_at "w"
    walk_at "d"
    refine S.forR (n := (xs.length : Int)) (fun t σ f => ∃ y1 y2 y3 y4, σ = [some (.ref a), some (.str (tx (wrs xs t))), y1, y2, y3, y4] ∧ f = []) ?_ ?_ ?_
    · walk_at "w"
      exact ⟨rfl, by omega, by omega, none, none, none, none, rfl, rfl⟩
    · rintro t σ f ht ⟨y1, y2, y3, y4, rfl, rfl⟩
      have hwl := wrs_len hb hl t
      have hstep : wrs xs (t + 1) = if xs.getD (xs.length - 1 - t) 0 = 0 then wrs xs t else wrs xs t ++ sgn (wrs xs t) (xs.getD (xs.length - 1 - t) 0) ++ trm (xs.getD (xs.length - 1 - t) 0).natAbs (xs.length - 1 - t) := rfl
      have hnb : (xs.getD (xs.length - 1 - t) 0).natAbs < 2 ^ 210 := hb.at _
      generalize wrs xs t = fnd at hstep hwl
      walk_at "d"
      walk_at "w"
      have eP : (xs.length : Int) - 1 - (t : Int) = ((xs.length - 1 - t : Nat) : Int) := by omega
      rw [eP]
      walk_at "d"
      walk_at "w"
      rw [gat_nat]
      have hp : xs.length - 1 - t < 1000 := by omega
      generalize xs.length - 1 - t = p at hstep hnb hp
      generalize xs.getD p 0 = n at hstep hnb
      walk_at "d"
      walk_at "w"
      by_cases h0 : n = 0
      · rw [decide_eq_true h0]
        rw [if_pos h0] at hstep
        walk_at "w"
        rw [← hstep]
        walk_at "lp"
        exact ⟨_, _, _, _, rfl, rfl⟩
      · rw [decide_eq_false h0]
        rw [if_neg h0] at hstep
        walk_at "w0"
        walk_at "d"
        obtain ⟨s1, hs1⟩ : ∃ s1 : List Nat, s1 = if n < 0 then [32, 45, 32] else [32, 43, 32] := ⟨_, rfl⟩
        obtain ⟨s2, hs2⟩ : ∃ s2 : List Nat, s2 = if fnd = [] ∧ n < 0 then [45] else s1 := ⟨_, rfl⟩
        obtain ⟨s3, hs3⟩ : ∃ s3 : List Nat, s3 = if fnd = [] ∧ 0 < n then [] else s2 := ⟨_, rfl⟩
        have hs : s3 = sgn fnd n := by
          unfold sgn
          by_cases he : fnd = []
          · rw [if_pos he]
            by_cases hn : n < 0
            · rw [if_pos hn, hs3, if_neg (fun z => by omega), hs2, if_pos ⟨he, hn⟩]
            · rw [if_neg hn, hs3, if_pos ⟨he, by omega⟩]
          · rw [if_neg he, hs3, if_neg (fun z => he z.1), hs2, if_neg (fun z => he z.1), hs1]
        refine S.ifset (.str (tx s1)) ?_ ?_
        · walk_at "w"
          refine ⟨rfl, fun hb => ?_, fun hb => ?_⟩
          · walk_at "w"
            rw [hs1, if_pos (of_decide_eq_true hb)]
            exact ⟨rfl, rfl⟩
          · rw [hs1, if_neg (of_decide_eq_false hb)]
            rfl
        walk_at "d"
        refine S.seq ?_
        refine S.ifset (.str (tx s2)) ?_ ?_
        · walk_at "w"
          by_cases he : fnd = []
          · rw [decide_eq_true he]
            walk_at "w"
            refine ⟨rfl, fun hb => ?_, fun hb => ?_⟩
            · walk_at "w"
              rw [hs2, if_pos ⟨he, of_decide_eq_true hb⟩]
              exact ⟨rfl, rfl⟩
            · rw [hs2, if_neg (fun z => of_decide_eq_false hb z.2)]
              rfl
          · rw [decide_eq_false he]
            walk_at "w"
            refine ⟨rfl, fun hb => Bool.noConfusion hb, fun _ => ?_⟩
            rw [hs2, if_neg (fun z => he z.1)]
            rfl
        walk_at "d"
        refine S.seq ?_
        refine S.ifset (.str (tx s3)) ?_ ?_
        · walk_at "w"
          by_cases he : fnd = []
          · rw [decide_eq_true he]
            walk_at "w"
            refine ⟨rfl, fun hb => ?_, fun hb => ?_⟩
            · walk_at "w"
              rw [hs3, if_pos ⟨he, of_decide_eq_true hb⟩]
              exact ⟨rfl, rfl⟩
            · rw [hs3, if_neg (fun z => of_decide_eq_false hb z.2)]
              rfl
          · rw [decide_eq_false he]
            walk_at "w"
            refine ⟨rfl, fun hb => Bool.noConfusion hb, fun _ => ?_⟩
            rw [hs3, if_neg (fun z => he z.1)]
            rfl
        rw [hs]
        walk_at "d"
        have l1 := sgn_len fnd n
        have l2 := trm_len hnb hp
        walk_at "w"
        refine RW.addS (by omega) ?_
        walk_at "w"
        refine WC_term hnb hp ?_
        refine RW.addS (by rw [List.length_append]; omega) ?_
        rw [← hstep]
        walk_at "d"
        walk_at "lp"
        exact ⟨_, _, _, _, rfl, rfl⟩
    · rintro σ f ⟨y1, y2, y3, y4, rfl, rfl⟩
      have ek : ((xs.length : Int)).toNat = xs.length := by simp
      rw [ek]
      unfold wr at q
      walk_at "w"
      by_cases he : wrs xs xs.length = []
      · rw [if_pos he] at q
        rw [decide_eq_true he]
        walk_at "w"
        exact NR.sub q (by walk_at "sub")
      · rw [if_neg he] at q
        rw [decide_eq_false he]
        walk_at "w"
        exact NR.sub q (by walk_at "sub")

end

section
variable {P : Program} {w : World} {K : PySem.W.Frag} {mg : Str → Option Value} {base : Heap}
def sp_whole_of : Sp := fun vs H Q _ => ∃ (n : Nat), vs = [.str (tx (TL.numL n))] ∧ 0 < n ∧ n < 2 ^ 210 ∧ NR Q (.int (n : Int)) H []
theorem WC_whole_of {H0 : Hp} {fs : Fs} {Φ : CV} {n : Nat} (h0 : 0 < n) (hn : n < 2 ^ 210) (q : Φ (.int (n : Int)) fs) : WC sp_whole_of [.str (tx (TL.numL n))] H0 fs Φ := fun H k Q E cc => ⟨n, rfl, h0, hn, fun H' k' => cc _ _ _ (k.app k') q⟩
theorem ok_whole_of (T : Txt K mg) : FnOk P w K mg base CX0 1 T.a_whole_of T.d_whole_of ["figures"] sp_whole_of := by
  refine T.F_whole_of.ok sc_whole_of (fun vs H Q E h => ?_) (fun cdv A outer s H vs Q E hr h => ?_)
  · obtain ⟨n, rfl, _⟩ := h; rfl
  · obtain ⟨n, rfl, h0, hn, q⟩ := h
    refine ⟨_, (pss_cons (ps_for PassesOwn.never rfl (pi_str (pv 0)) (pg_name (i := 1) sc_whole_of.nd rfl (Or.inl rfl)) (pss_one (ps_if (pt_cmpR op_notInS (pv 1) (pe_globS (l := [48, 49, 50, 51, 52, 53, 54, 55, 56, 57]) (by rfl) T.g_FIGURES (by decide +kernel)) rfl) (pss_one ps_never) pss_nil)))
      (pss_cons (ps_if (PW.pt (pw_or (pt_cmpR op_eq (pv 0) (pe_strL (l := []) (by decide +kernel)) (nomark _)) (pw_or1 (pt_cmpR op_eq (pe_ix ix_str (pv 0) pe_int (fun _ _ => rfl)) (pe_strL (l := [48]) (by decide +kernel)) (nomark _))))) (pss_one ps_never) pss_nil)
      (pss_one (ps_ret (pe_callTy cInt (by rfl) T.z_int (by decide +kernel) (pa_cons (pv 0) pa_nil)))))), ?_⟩
    refine N.go (σ := [some (.str (tx (TL.numL n))), none]) ?_
    have hl := numL_len64 hn
    have hd := TL.numL_digits n
    obtain ⟨c, r, hc, hc48⟩ := numL_head h0
    walk_at "w"
    refine S.forS (a := TL.numL n) (fun i σ f => ∃ y, σ = [some (.str (tx (TL.numL n))), y] ∧ f = []) ?_ ?_ ?_
    · walk_at "w"
      exact ⟨rfl, none, rfl, rfl⟩
    · rintro i ch σ f hi ⟨y, rfl, rfl⟩
      have hch := hd ch (List.mem_of_getElem? hi)
      have hin : ch ∈ [48, 49, 50, 51, 52, 53, 54, 55, 56, 57] := by simp; omega
      walk_at "d"
      walk_at "w"
      rw [decide_eq_true hin]
      walk_at "w"
      walk_at "lp"
      exact ⟨_, rfl, rfl⟩
    · rintro σ f ⟨y, rfl, rfl⟩
      walk_at "w"
      rw [decide_eq_false (TL.numL_ne n)]
      walk_at "w"
      refine RW.ixC (c := c) (by omega) (by rw [hc]; exact (atI_nat (show (c :: r)[0]? = some c from rfl) : atI (c :: r) ((0 : Nat) : Int) = some c)) ?_
      walk_at "w"
      rw [decide_eq_false (show ¬ [c] = [48] from fun z => hc48 (List.cons.inj z).1)]
      walk_at "w"
      refine RC.intN (by omega) ?_
      exact NR.sub q (by walk_at "sub")

end

section
variable {P : Program} {w : World} {K : PySem.W.Frag} {mg : Str → Option Value} {base : Heap}
def sp_power_of : Sp := fun vs H Q _ => ∃ (p : Nat), vs = [.str (tx (lett p))] ∧ p < 100 ∧ NR Q (.int (p : Int)) H []
theorem WC_power_of {H0 : Hp} {fs : Fs} {Φ : CV} {p : Nat} (hp : p < 100) (q : Φ (.int (p : Int)) fs) : WC sp_power_of [.str (tx (lett p))] H0 fs Φ := fun H k Q E cc => ⟨p, rfl, hp, fun H' k' => cc _ _ _ (k.app k') q⟩
theorem ok_power_of (T : Txt K mg) : FnOk P w K mg base CX0 2 T.a_power_of T.d_power_of ["line"] sp_power_of := by
  refine T.F_power_of.ok sc_power_of (fun vs H Q E h => ?_) (fun cdv A outer s H vs Q E hr h => ?_)
  · obtain ⟨p, rfl, _⟩ := h; rfl
  · obtain ⟨p, rfl, hp, q⟩ := h
    refine ⟨_, (pss_cons (ps_if (pt_cmpR op_eq (pv 0) (pe_strL (l := []) (by decide +kernel)) (nomark _)) (pss_one (ps_ret pe_int)) pss_nil)
      (pss_cons (ps_if (pt_cmpR op_eq (pv 0) (pe_strL (l := [120]) (by decide +kernel)) (nomark _)) (pss_one (ps_ret pe_int)) pss_nil)
      (pss_cons (ps_if (PW.pt (pw_or (pt_cmpR op_ne (pe_slice sl_strR (pv 0) po_none (po_some pe_int)) (pe_strL (l := [120, 94]) (by decide +kernel)) (nomark _)) (pw_or (pt_cmpR op_gt (pe_callB cLenS (by rfl) T.z_len PySem.boot_len (pa_cons (pv 0) pa_nil)) pe_int (nomark _)) (pw_or1 (pt_cmpR op_eq (pv 0) (pe_strL (l := [120, 94, 49]) (by decide +kernel)) (nomark _)))))) (pss_one ps_never) pss_nil)
      (pss_one (ps_ret (pe_call (ok_whole_of T) (hr.mono (by decide)) (by rfl) T.m_whole_of T.F_whole_of.kp T.b_whole_of .nil pass0 (pa_cons (pe_slice sl_strR (pv 0) (po_some pe_int) po_none) pa_nil))))))), ?_⟩
    by_cases p0 : p = 0
    · subst p0
      refine N.go (σ := [some (.str (tx []))]) ?_
      walk_at "w"
      exact NR.sub q (by walk_at "sub")
    by_cases p1 : p = 1
    · subst p1
      refine N.go (σ := [some (.str (tx [120]))]) ?_
      walk_at "w"
      exact NR.sub q (by walk_at "sub")
    have e : lett p = 120 :: 94 :: TL.numL p := by unfold lett; rw [if_neg p0, if_neg p1]; rfl
    rw [e]
    have hl := TL.numL_len (n := p) (k := 2) (by decide) (by omega)
    refine N.go (σ := [some (.str (tx (120 :: 94 :: TL.numL p)))]) ?_
    have hll : (120 :: 94 :: TL.numL p).length ≤ 1000000 := by simp only [List.length_cons]; omega
    walk_at "w"
    refine RS.takeS (by decide) hll ?_
    walk_at "w"
    rw [decide_eq_false (show ¬ (4 : Int) < ((120 :: 94 :: TL.numL p).length : Int) by simp only [List.length_cons]; omega)]
    walk_at "w"
    rw [decide_eq_false (show ¬ (120 :: 94 :: TL.numL p) = [120, 94, 49] from fun z => p1 (numL_one.mp (List.cons.inj (List.cons.inj z).2).2))]
    walk_at "w"
    refine RS.dropS (by decide) hll ?_
    walk_at "w"
    refine WC_whole_of (n := p) (by omega) (Nat.lt_of_lt_of_le hp (by decide)) ?_
    exact NR.sub q (by walk_at "sub")

end

section
variable {P : Program} {w : World} {K : PySem.W.Frag} {mg : Str → Option Value} {base : Heap}
def sp_read_term : Sp := fun vs H Q _ => ∃ (n p : Nat), vs = [.str (tx (trm n p))] ∧ 0 < n ∧ n < 2 ^ 210 ∧ p < 100 ∧ ∀ r, NR Q (.ref r) H [(r, .tup [.int (n : Int), .int (p : Int)])]
theorem WC_read_term {H0 : Hp} {fs : Fs} {Φ : CV} {n p : Nat} (h0 : 0 < n) (hn : n < 2 ^ 210) (hp : p < 100) (q : ∀ r, Φ (.ref r) ((r, .tup [.int (n : Int), .int (p : Int)]) :: fs)) : WC sp_read_term [.str (tx (trm n p))] H0 fs Φ := fun H k Q E cc => ⟨n, p, rfl, h0, hn, hp, fun r H' k' => cc _ _ _ (k.app k') (q r)⟩
theorem ok_read_term (T : Txt K mg) : FnOk P w K mg base CX0 3 T.a_read_term T.d_read_term ["line"] sp_read_term := by
  refine T.F_read_term.ok sc_read_term (fun vs H Q E h => ?_) (fun cdv A outer s H vs Q E hr h => ?_)
  · obtain ⟨n, p, rfl, _⟩ := h; rfl
  · obtain ⟨n, p, rfl, h0, hn, hp, q⟩ := h
    refine ⟨_, (pss_cons (ps_set (i := 1) sc_read_term.nd rfl (Or.inl rfl) (pv 0))
      (pss_cons (ps_set (i := 2) sc_read_term.nd rfl (Or.inl rfl) pe_int)
      (pss_cons (ps_if (pt_cmpR op_inS (pe_strL (l := [120]) (by decide +kernel)) (pv 0) rfl) (pss_cons (ps_set (i := 1) sc_read_term.nd rfl (Or.inl rfl) (pe_slice sl_strR (pv 0) po_none (po_some (pe_m1 PySem.F.slot_str_index PySem.F.type_str_index mt_index (pv 0) (pe_strL (l := [120]) (by decide +kernel))))))
      (pss_one (ps_set (i := 2) sc_read_term.nd rfl (Or.inl rfl) (pe_call (ok_power_of T) (hr.mono (by decide)) (by rfl) T.m_power_of T.F_power_of.kp T.b_power_of .nil pass0 (pa_cons (pe_slice sl_strR (pv 0) (po_some (pe_callB cLenS (by rfl) T.z_len PySem.boot_len (pa_cons (pv 1) pa_nil))) po_none) pa_nil))))) pss_nil)
      (pss_cons (ps_if (PW.pt (pw_and (pt_cmpR op_eq (pv 1) (pe_strL (l := []) (by decide +kernel)) (nomark _)) (pw_and1 (pt_cmpR op_gt (pv 2) pe_int (nomark _))))) (pss_one (ps_ret (pe_tup (pa_cons pe_int (pa_cons (pv 2) pa_nil))))) pss_nil)
      (pss_cons (ps_set (i := 3) sc_read_term.nd rfl (Or.inl rfl) (pe_call (ok_whole_of T) (hr.mono (by decide)) (by rfl) T.m_whole_of T.F_whole_of.kp T.b_whole_of .nil pass0 (pa_cons (pv 1) pa_nil)))
      (pss_cons (ps_if (PW.pt (pw_and (pt_cmpR op_eq (pv 3) pe_int (nomark _)) (pw_and1 (pt_cmpR op_gt (pv 2) pe_int (nomark _))))) (pss_one ps_never) pss_nil)
      (pss_one (ps_ret (pe_tup (pa_cons (pv 3) (pa_cons (pv 2) pa_nil))))))))))), ?_⟩
    have hl := trm_len hn (show p < 1000 by omega)
    by_cases p0 : p = 0
    · subst p0
      have e : trm n 0 = TL.numL n := by unfold trm lett; rw [if_neg (fun z => absurd z.2 (by decide)), if_pos rfl, List.append_nil]
      rw [e]
      refine N.go (σ := [some (.str (tx (TL.numL n))), none, none, none]) ?_
      walk_at "w"
      walk_at "d"
      walk_at "w"
      walk_at "d"
      walk_at "w"
      rw [decide_eq_false (TL.numL_free (n := n) (s := 120) (.inr (by decide)))]
      walk_at "w"
      rw [decide_eq_false (TL.numL_ne n)]
      walk_at "w"
      refine WC_whole_of (n := n) h0 hn ?_
      walk_at "d"
      walk_at "w"
      by_cases n1 : n = 1
      · subst n1
        walk_at "w"
        refine ⟨by simp, fun r => ?_⟩
        exact NR.sub (q r) (by walk_at "sub")
      · rw [decide_eq_false (show ¬ (n : Int) = 1 by omega)]
        walk_at "w"
        refine ⟨by simp, fun r => ?_⟩
        exact NR.sub (q r) (by walk_at "sub")
    · obtain ⟨F, hF⟩ : ∃ F, F = if n = 1 then [] else TL.numL n := ⟨_, rfl⟩
      obtain ⟨R, hR⟩ : ∃ R, lett p = 120 :: R := by
        unfold lett
        rw [if_neg p0]
        split
        · exact ⟨_, rfl⟩
        · exact ⟨_, rfl⟩
      have hfr : 120 ∉ F := by
        rw [hF]
        split
        · exact List.not_mem_nil
        · exact TL.numL_free (.inr (by decide))
      have e : trm n p = F ++ 120 :: R := by
        unfold trm
        rw [hR, hF]
        by_cases n1 : n = 1
        · rw [if_pos ⟨n1, by omega⟩, if_pos n1]
        · rw [if_neg (fun z => n1 z.1), if_neg n1]
      rw [e] at hl ⊢
      refine N.go (σ := [some (.str (tx (F ++ 120 :: R))), none, none, none]) ?_
      have hll : (F ++ 120 :: R).length ≤ 1000000 := by omega
      walk_at "w"
      walk_at "d"
      walk_at "w"
      walk_at "d"
      walk_at "w"
      rw [decide_eq_true (show 120 ∈ F ++ 120 :: R by simp)]
      walk_at "w"
      refine RM.indexL hfr ?_
      walk_at "w"
      refine RS.takeS (by omega) hll ?_
      have et : (F ++ 120 :: R).take ((F.length : Int)).toNat = F := by
        rw [Int.toNat_natCast, List.take_left]
      rw [et]
      walk_at "d"
      have hfl : F.length ≤ 1000000 := by rw [List.length_append] at hll; omega
      walk_at "w"
      refine RS.dropS (by omega) hll ?_
      have ed : (F ++ 120 :: R).drop ((F.length : Int)).toNat = lett p := by
        rw [Int.toNat_natCast, List.drop_left, hR]
      rw [ed]
      walk_at "w"
      refine WC_power_of hp ?_
      walk_at "d"
      walk_at "w"
      by_cases n1 : n = 1
      · rw [if_pos n1] at hF
        rw [decide_eq_true hF]
        walk_at "w"
        rw [decide_eq_true (show (0 : Int) < (p : Int) by omega)]
        walk_at "w"
        refine ⟨by simp, fun r => ?_⟩
        subst n1
        exact NR.sub (q r) (by walk_at "sub")
      · rw [if_neg n1] at hF
        subst hF
        rw [decide_eq_false (TL.numL_ne n)]
        walk_at "w"
        refine WC_whole_of (n := n) h0 hn ?_
        walk_at "d"
        walk_at "w"
        rw [decide_eq_false (show ¬ (n : Int) = 1 by omega)]
        walk_at "w"
        refine ⟨by simp, fun r => ?_⟩
        exact NR.sub (q r) (by walk_at "sub")

end

section
variable {P : Program} {w : World} {K : PySem.W.Frag} {mg : Str → Option Value} {base : Heap}
def sp_read : Sp := fun vs H Q _ => ∃ (xs : List Int), vs = [.str (tx (wr xs))] ∧ Tr xs ∧ xs.length ≤ 100 ∧ BdL 210 xs ∧ ∀ r, NR Q (.ref r) H [(r, .lst (zV xs))]
theorem WC_read {H0 : Hp} {fs : Fs} {Φ : CV} {xs : List Int} (ht : Tr xs) (hl : xs.length ≤ 100) (hb : BdL 210 xs) (q : ∀ r, Φ (.ref r) ((r, .lst (zV xs)) :: fs)) : WC sp_read [.str (tx (wr xs))] H0 fs Φ := fun H k Q E cc => ⟨xs, rfl, ht, hl, hb, fun r H' k' => cc _ _ _ (k.app k') (q r)⟩
theorem ok_read (T : Txt K mg) : FnOk P w K mg base CX0 4 T.a_read T.d_read ["line"] sp_read := by
  refine T.F_read.ok sc_read (fun vs H Q E h => ?_) (fun cdv A outer s H vs Q E hr h => ?_)
  · obtain ⟨xs, rfl, _⟩ := h; rfl
  · obtain ⟨xs, rfl, ht, hl, hb, q⟩ := h
    refine ⟨_, (pss_cons (ps_if (pt_cmpR op_eq (pv 0) (pe_strL (l := [48]) (by decide +kernel)) (nomark _)) (pss_one (ps_ret (pe_lst pa_nil))) pss_nil)
      (pss_cons (ps_set (i := 1) sc_read.nd rfl (Or.inl rfl) pe_int)
      (pss_cut (ps_if (pt_cmpR op_eq (pe_slice sl_strR (pv 0) po_none (po_some pe_int)) (pe_strL (l := [45]) (by decide +kernel)) (nomark _)) (pss_cons (ps_set (i := 1) sc_read.nd rfl (Or.inl rfl) (pe_un un_neg pe_int))
      (pss_one (ps_set (i := 0) sc_read.nd rfl (Or.inl rfl) (pe_slice sl_strR (pv 0) (po_some pe_int) po_none)))) pss_nil)
      (pss_cons (ps_set (i := 2) sc_read.nd rfl (Or.inl rfl) (pe_m1 PySem.F.slot_str_split PySem.F.type_str_split mt_splitR (pv 0) (pe_strL (l := [32]) (by decide +kernel))))
      (pss_cons (ps_set (i := 3) sc_read.nd rfl (Or.inl rfl) (pe_op op_rep (pe_lst (pa_cons pe_int pa_nil)) pe_int))
      (pss_cons (ps_set (i := 4) sc_read.nd rfl (Or.inl rfl) pe_int)
      (pss_cons (ps_for PassesOwn.never rfl (pi_range1 rfl T.z_range (pa_cons (pe_callB cLen (by rfl) T.z_len PySem.boot_len (pa_cons (pv 2) pa_nil)) pa_nil)) (pg_name (i := 5) sc_read.nd rfl (Or.inl rfl)) (pss_one (ps_if (pt_cmpR op_eq (pe_op op_mod (pv 5) pe_int) pe_int (nomark _)) (pss_cons (ps_set (i := 6) sc_read.nd rfl (Or.inl rfl) (pe_call (ok_read_term T) (hr.mono (by decide)) (by rfl) T.m_read_term T.F_read_term.kp T.b_read_term .nil pass0 (pa_cons (pe_ix ix_list (pv 2) (pv 5) (fun _ _ => rfl)) pa_nil)))
      (pss_cons (ps_if (pt_cmpR op_ge (pe_ix ix_tup (pv 6) pe_int (fun _ _ => rfl)) (pv 4) (nomark _)) (pss_one ps_never) pss_nil)
      (pss_cons (ps_set (i := 4) sc_read.nd rfl (Or.inl rfl) (pe_ix ix_tup (pv 6) pe_int (fun _ _ => rfl)))
      (pss_one (ps_asg (pe_op op_mulG (pv 1) (pe_ix ix_tup (pv 6) pe_int (fun _ _ => rfl))) (pg_sub (pv 3) (pv 4) set_list)))))) (pss_one (ps_if (pt_cmpR op_eq (pe_ix ix_list (pv 2) (pv 5) (fun _ _ => rfl)) (pe_strL (l := [43]) (by decide +kernel)) (nomark _)) (pss_one (ps_set (i := 1) sc_read.nd rfl (Or.inl rfl) pe_int)) (pss_one (ps_if (pt_cmpR op_eq (pe_ix ix_list (pv 2) (pv 5) (fun _ _ => rfl)) (pe_strL (l := [45]) (by decide +kernel)) (nomark _)) (pss_one (ps_set (i := 1) sc_read.nd rfl (Or.inl rfl) (pe_un un_neg pe_int))) (pss_one ps_never))))))))
      (pss_cons (ps_if (pt_cmpR op_eq (pe_op op_mod (pe_callB cLen (by rfl) T.z_len PySem.boot_len (pa_cons (pv 2) pa_nil)) pe_int) pe_int (nomark _)) (pss_one ps_never) pss_nil)
      (pss_one (ps_ret (pe_call (ok_trimmed T) (hr.mono (by decide)) (by rfl) T.m_trimmed T.F_trimmed.kp T.b_trimmed .nil pass0 (pa_cons (pv 3) pa_nil)))))))))))), ?_⟩
    obtain ⟨hw, hw2⟩ := wrs_eq xs xs.length
    have hpow := tms_pow xs xs.length (Nat.le_refl _)
    have hdesc := tms_desc xs xs.length (Nat.le_refl _)
    have hfill := fill_trim ht hl
    have hlen := wrs_len hb (show xs.length ≤ 900 by omega) xs.length
    have hnil := tms_nil ht hl
    have htl := tms_len xs xs.length
    by_cases he : wrs xs xs.length = []
    · have e : wr xs = [48] := by unfold wr; rw [if_pos he]
      rw [e]
      refine N.go (σ := [some (.str (tx [48])), none, none, none, none, none, none]) ?_
      have ex := hnil (hw2.mp he)
      subst ex
      walk_at "w"
      exact fun r => NR.sub (q r) (by walk_at "sub")
    have e : wr xs = wrs xs xs.length := by unfold wr; rw [if_neg he]
    rw [e, hw]
    rw [hw] at hlen
    have hbt : ∀ a ∈ tms xs xs.length, a.1.natAbs < 2 ^ 210 := fun a ha => by rw [(hpow a ha).2.2.1]; exact hb.at _
    have hne : tms xs xs.length ≠ [] := fun z => he (hw2.mpr z)
    generalize tms xs xs.length = ts at hpow hdesc hfill hlen hbt hne htl
    obtain ⟨a0, ts', rfl⟩ : ∃ a r, ts = a :: r := by
      cases ts with
      | nil => exact absurd rfl hne
      | cons a r => exact ⟨a, r, rfl⟩
    obtain ⟨c, qq, hjc, hc48, hc45⟩ := join_head (r := ts') (hpow a0 List.mem_cons_self).2.2.2
    have hsplit := words_split (ts := a0 :: ts') (List.cons_ne_nil _ _)
    have hwl := words_len (ts := a0 :: ts') (List.cons_ne_nil _ _)
    have hts : (a0 :: ts').length ≤ 100 := by omega
    generalize hJ : TL.joinL [32] (words (a0 :: ts')) = J at hlen hjc hsplit
    refine N.go (σ := [some (.str (tx (hs (a0 :: ts') ++ J))), none, none, none, none, none, none]) ?_
    have hn48 : ¬ (hs (a0 :: ts') ++ J = [48]) := by
      rw [hjc]
      show ¬ ((if a0.1 < 0 then [45] else []) ++ c :: qq = [48])
      split
      · intro z; exact absurd (List.cons.inj z).1 (by decide)
      · intro z; exact hc48 (List.cons.inj z).1
    have hll : (hs (a0 :: ts') ++ J).length ≤ 1000000 := by omega
    have hJl : J.length ≤ 900000 := by rw [List.length_append] at hlen; omega
    walk_at "w"
    rw [decide_eq_false hn48]
    walk_at "w0"
    walk_at "d"
    refine S.cut (fun σ f => σ = [some (.str (tx J)), some (.int (sgi a0.1)), none, none, none, none, none] ∧ f = []) ?_ ?_
    · walk_at "w"
      refine RS.takeS (by decide) hll ?_
      walk_at "w"
      by_cases hneg : a0.1 < 0
      · have eh : hs (a0 :: ts') = [45] := by show (if a0.1 < 0 then [45] else []) = _; rw [if_pos hneg]
        rw [eh] at hll ⊢
        have h1 : decide (List.take (Int.toNat 1) ([45] ++ J) = [45]) = true := decide_eq_true rfl
        rw [h1]
        walk_at "w"
        walk_at "d"
        walk_at "w"
        refine RS.dropS (by decide) hll ?_
        walk_at "d"
        walk_at "un"
        refine ⟨?_, rfl⟩
        unfold sgi
        rw [if_pos hneg]
        rfl
      · have eh : hs (a0 :: ts') = [] := by show (if a0.1 < 0 then [45] else []) = _; rw [if_neg hneg]
        rw [eh] at hll ⊢
        have h1 : decide (List.take (Int.toNat 1) ([] ++ J) = [45]) = false := decide_eq_false fun z => by
          rw [hjc] at z
          exact hc45 (List.cons.inj (show c :: List.take 0 qq = [45] from z)).1
        rw [h1]
        walk_at "w"
        walk_at "un"
        refine ⟨?_, rfl⟩
        unfold sgi
        rw [if_neg hneg]
        rfl
    rintro σ f ⟨rfl, rfl⟩
    walk_at "w"
    refine RM.splitL (by decide) hJl fun pw => ?_
    rw [hsplit]
    generalize hts0 : a0 :: ts' = ts at hpow hdesc hfill hbt hwl hts
    have hts1 : ts[0]? = some a0 := by rw [← hts0]; rfl
    walk_at "d"
    walk_at "w"
    intro z
    walk_at "w"
    refine RW.rep (x := 0) (by walk_at "rx") (by decide) fun pr => ?_
    walk_at "d"
    walk_at "w"
    walk_at "d"
    refine N.sub [(pr, .lst (zV (List.replicate ((100 : Int)).toNat 0))), (pw, .lst (sV (words ts)))] (by walk_at "sub") ?_
    refine S.forR (n := ((words ts).length : Int)) (fun k σ f => ∃ s last y5 y6, σ = [some (.str (tx J)), some (.int s), some (.ref pw), some (.ref pr), some (.int ((last : Nat) : Int)), y5, y6] ∧ f = [(pr, .lst (zV (fill (ts.take ((k + 1) / 2))))), (pw, .lst (sV (words ts)))] ∧ (k % 2 = 0 → ∀ a, ts[k / 2]? = some a → s = sgi a.1) ∧ (k = 0 → last = 100) ∧ (∀ i a, i + 1 = (k + 1) / 2 → ts[i]? = some a → last = a.2)) ?_ ?_ ?_
    · walk_at "w"
      rw [sV_length]
      refine ⟨rfl, by omega, by omega, sgi a0.1, 100, none, none, rfl, rfl, fun _ a h => ?_, fun _ => rfl, fun i a h => by omega⟩
      rw [hts1] at h
      rw [Option.some.inj h]
    · rintro k σ f hk ⟨s, last, y5, y6, rfl, rfl, hs1, hs2, hs3⟩
      walk_at "d"
      walk_at "w"
      have hkl : k < (words ts).length := by omega
      by_cases hk2 : k % 2 = 0
      · obtain ⟨i, rfl⟩ : ∃ i, k = 2 * i := ⟨k / 2, by omega⟩
        have hi : i < ts.length := by omega
        obtain ⟨a, ha⟩ : ∃ a, ts[i]? = some a := ⟨_, List.getElem?_eq_getElem hi⟩
        have ham := List.mem_of_getElem? ha
        obtain ⟨_, p1, p2, p3⟩ := hpow a ham
        have hsa := hs1 hk2 a (by rw [show 2 * i / 2 = i by omega]; exact ha)
        have hat := (words_at ts i a ha).1
        have hlast : a.2 < last := by
          cases i with
          | zero => rw [hs2 rfl]; omega
          | succ i =>
            obtain ⟨b, hb'⟩ : ∃ b, ts[i]? = some b := ⟨_, List.getElem?_eq_getElem (by omega)⟩
            rw [hs3 i b (by omega) hb']
            obtain ⟨h1, e1⟩ := List.getElem?_eq_some_iff.mp hb'
            obtain ⟨h2, e2⟩ := List.getElem?_eq_some_iff.mp ha
            rw [← e1, ← e2]
            exact List.pairwise_iff_getElem.mp hdesc i (i + 1) h1 h2 (by omega)
        rw [decide_eq_true (show ((2 * i : Nat) : Int) % 2 = 0 by omega)]
        walk_at "w"
        refine RW.ixL (by walk_at "rl") (atI_sV hat) ?_
        walk_at "w"
        refine WC_read_term (Int.natAbs_pos.mpr p3) (hbt a ham) (by omega) fun r => ?_
        walk_at "d"
        walk_at "w"
        rw [decide_eq_false (show ¬ (last : Int) ≤ (a.2 : Int) by omega)]
        walk_at "w"
        walk_at "d"
        refine S.setL ?_
        have hok : IntMulOk s (a.1.natAbs : Int) := by
          rw [hsa]
          unfold sgi
          split
          · exact mulL (by decide) (by decide)
          · exact mulL (by decide) (by decide)
        walk_at "w"
        walk_at "set1"
        · rw [zV_length, fill_len]; omega
        have e2 : (((a.2 : Nat) : Int)).toNat = a.2 := by simp
        rw [hsa, sgi_mul, e2, zV_set]
        walk_at "d"
        have ef : fill (ts.take ((2 * i + 1 + 1) / 2)) = (fill (ts.take i)).set a.2 a.1 := by
          rw [show (2 * i + 1 + 1) / 2 = i + 1 by omega, List.take_add_one, ha]
          exact fill_snoc _ _
        rw [show (2 * i + 1) / 2 = i by omega, ← ef]
        refine Lp.sub [(pr, .lst (zV (fill (ts.take ((2 * i + 1 + 1) / 2))))), (pw, .lst (sV (words ts)))] (by walk_at "sub") ?_
        refine ⟨_, a.2, _, _, rfl, rfl, fun h => by omega, fun h => by omega, fun i2 b h hb2 => ?_⟩
        have : i2 = i := by omega
        subst this
        rw [ha] at hb2
        rw [Option.some.inj hb2]
      · obtain ⟨i, rfl⟩ : ∃ i, k = 2 * i + 1 := ⟨k / 2, by omega⟩
        have hi : i + 1 < ts.length := by omega
        obtain ⟨a, ha⟩ : ∃ a, ts[i + 1]? = some a := ⟨_, List.getElem?_eq_getElem hi⟩
        have hat := (words_at ts (i + 1) a ha).2 (by omega)
        rw [show 2 * (i + 1) - 1 = 2 * i + 1 by omega] at hat
        rw [decide_eq_false (show ¬ ((2 * i + 1 : Nat) : Int) % 2 = 0 by omega)]
        have ej : (2 * i + 1 + 1 + 1) / 2 = (2 * i + 1 + 1) / 2 := by omega
        walk_at "w"
        refine RW.ixL (by walk_at "rl") (atI_sV hat) ?_
        walk_at "w"
        by_cases hneg : a.1 < 0
        · have es : sg a.1 = [45] := by unfold sg; rw [if_pos hneg]
          have es2 : sgi a.1 = -1 := by unfold sgi; rw [if_pos hneg]
          rw [es] at hat ⊢
          walk_at "w"
          refine RW.ixL (by walk_at "rl") (atI_sV hat) ?_
          walk_at "w"
          walk_at "d"
          walk_at "lp"
          refine ⟨_, last, _, _, rfl, by rw [ej], fun h b hb2 => ?_, fun h => by omega, fun i2 b h hb2 => hs3 i2 b (by omega) hb2⟩
          rw [show (2 * i + 1 + 1) / 2 = i + 1 by omega, ha] at hb2
          rw [← Option.some.inj hb2, es2]
        · have es : sg a.1 = [43] := by unfold sg; rw [if_neg hneg]
          have es2 : sgi a.1 = 1 := by unfold sgi; rw [if_neg hneg]
          rw [es] at hat ⊢
          walk_at "w"
          walk_at "d"
          walk_at "lp"
          refine ⟨_, last, _, _, rfl, by rw [ej], fun h b hb2 => ?_, fun h => by omega, fun i2 b h hb2 => hs3 i2 b (by omega) hb2⟩
          rw [show (2 * i + 1 + 1) / 2 = i + 1 by omega, ha] at hb2
          rw [← Option.some.inj hb2, es2]
    · rintro σ f ⟨s, last, y5, y6, rfl, rfl, hs1, hs2, hs3⟩
      have ek : (((words ts).length : Int)).toNat = (words ts).length := by simp
      rw [ek]
      have et : ts.take (((words ts).length + 1) / 2) = ts := by
        rw [hwl, show 2 * ts.length / 2 = ts.length by omega, List.take_length]
      rw [et]
      have hwl2 : (sV (words ts)).length = (words ts).length := sV_length _
      walk_at "w"
      rw [decide_eq_false (show ¬ ((sV (words ts)).length : Int) % 2 = 0 by omega)]
      walk_at "w"
      refine WC_trimmed (xs := fill ts) (by walk_at "rx") (by rw [fill_len]; omega) fun r => ?_
      rw [hfill]
      exact NR.sub (q r) (by walk_at "sub")

end

section
variable {P : Program} {w : World} {K : PySem.W.Frag} {mg : Str → Option Value} {base : Heap}
/-- on ints -/
def sp__law_whole : Sp := fun vs H Q _ => ∃ (i : Int), vs = [.int i] ∧ NR Q (.bl true) H []
theorem WC__law_whole {H0 : Hp} {fs : Fs} {Φ : CV} {i : Int} (q : Φ (.bl true) fs) : WC sp__law_whole [.int i] H0 fs Φ := fun H k Q E c => ⟨i, rfl, fun H' k' => c _ _ _ (k.app k') q⟩
theorem ok__law_whole (T : Txt K mg) : FnOk P w K mg base CX0 1 T.a__law_whole T.d__law_whole ["_law_found"] sp__law_whole := by
  refine T.F__law_whole.ok sc__law_whole (fun vs H Q E h => ?_) (fun cdv A outer s H vs Q E hr h => ?_)
  · obtain ⟨i, rfl, _⟩ := h; rfl
  · obtain ⟨i, rfl, q⟩ := h
    refine ⟨_, (pss_one (ps_ret (pe_and (pe_callB call_isi (by rfl) T.z_isinstance (by decide +kernel) (pa_cons (pv 0) (pa_cons (pe_bltn (v := .ty "int") (by rfl) T.z_int (by decide +kernel) rfl) pa_nil))) (pe_one (pe_not (pe_callB call_isi (by rfl) T.z_isinstance (by decide +kernel) (pa_cons (pv 0) (pa_cons (pe_bltn (v := .ty "bool") (by rfl) T.z_bool (by decide +kernel) rfl) pa_nil)))))))), ?_⟩
    refine N.go (σ := [some (.int i)]) ?_
    walk_at "w"
    walk_at "fin"

end

section
variable {P : Program} {w : World} {K : PySem.W.Frag} {mg : Str → Option Value} {base : Heap}
def sp__law_cell_at (K : PySem.W.Frag) : Sp := fun vs H Q _ => ∃ (a : Addr) (ns : List Int) (i : Int), vs = [.ref a, .int i] ∧ SqL K H a (zV ns) ∧ 0 ≤ i ∧ NR Q (.int (gat ns i)) H []
theorem WC__law_cell_at {K : PySem.W.Frag} {H0 : Hp} {fs : Fs} {Φ : CV} {a : Addr} {ns : List Int} {i : Int} (h : Rl K H0 fs a (zV ns)) (hi : 0 ≤ i) (q : Φ (.int (gat ns i)) fs) : WC (sp__law_cell_at K) [.ref a, .int i] H0 fs Φ :=
  fun H k Q E c => ⟨a, ns, i, rfl, h H k, hi, fun H' k' => c _ _ _ (k.app k') q⟩
theorem ok__law_cell_at (T : Txt K mg) : FnOk P w K mg base CX0 1 T.a__law_cell_at T.d__law_cell_at ["_law_script", "_law_k"] (sp__law_cell_at K) := by
  refine T.F__law_cell_at.ok sc__law_cell_at (fun vs H Q E h => ?_) (fun cdv A outer s H vs Q E hr h => ?_)
  · obtain ⟨a, ns, i, rfl, _⟩ := h; rfl
  · obtain ⟨a, ns, i, rfl, hS, h0, q⟩ := h
    refine ⟨_, (pss_cons (ps_if (pt_cmpR op_lt (pv 1) (pe_callB cLen (by rfl) T.z_len PySem.boot_len (pa_cons (pv 0) pa_nil)) (nomark _)) (pss_one (ps_ret (pe_ix ix_list (pv 0) (pv 1) (fun _ _ => rfl)))) pss_nil)
      (pss_one (ps_ret pe_int))), ?_⟩
    refine N.go (σ := [some (.ref a), some (.int i)]) ?_
    walk_at "w"
    walk_at "if"
    · walk_at "w"
      walk_at "fin"
    · walk_at "w"
      have e : gat ns i = 0 := by
        unfold gat
        rw [List.getD_eq_getElem?_getD, List.getElem?_eq_none (by omega)]; rfl
      rw [e] at q
      walk_at "fin"

end

section
variable {P : Program} {w : World} {K : PySem.W.Frag} {mg : Str → Option Value} {base : Heap}
def sp__law_trim : Sp := fun vs H Q _ => ∃ (a : Addr) (xs : List Int), vs = [.ref a] ∧ H a = some (.lst (zV xs)) ∧ xs.length ≤ 100000 ∧ ∀ p, NR Q (.ref p) H [(p, .lst (zV (trim xs)))]
theorem WC__law_trim {H0 : Hp} {fs : Fs} {Φ : CV} {a : Addr} {xs : List Int} (h : Rx H0 fs a (.lst (zV xs))) (hl : xs.length ≤ 100000) (q : ∀ p, Φ (.ref p) ((p, .lst (zV (trim xs))) :: fs)) : WC sp__law_trim [.ref a] H0 fs Φ :=
  fun H k Q E c => ⟨a, xs, rfl, h H k, hl, fun p H' k' => c _ _ _ (k.app k') (q p)⟩
theorem ok__law_trim (T : Txt K mg) : FnOk P w K mg base CX0 1 T.a__law_trim T.d__law_trim ["_law_row"] sp__law_trim := by
  refine T.F__law_trim.ok sc__law_trim (fun vs H Q E h => ?_) (fun cdv A outer s H vs Q E hr h => ?_)
  · obtain ⟨a, xs, rfl, _⟩ := h; rfl
  · obtain ⟨a, xs, rfl, hA, hl, q⟩ := h
    refine ⟨_, (pss_cons (ps_set (i := 1) sc__law_trim.nd rfl (Or.inl rfl) (pe_callB cLen (by rfl) T.z_len PySem.boot_len (pa_cons (pv 0) pa_nil)))
      (pss_cons (ps_while PassesOwn.never (PW.pt (pw_and (pt_cmpR op_gt (pv 1) pe_int (nomark _)) (pw_and1 (pt_cmpR op_eq (pe_ix ix_list (pv 0) (pe_op op_sub (pv 1) pe_int) (fun _ _ => rfl)) pe_int (nomark _))))) (pss_one (ps_set (i := 1) sc__law_trim.nd rfl (Or.inl rfl) (pe_op op_sub (pv 1) pe_int))))
      (pss_one (ps_ret (pe_slice sl_list (pv 0) po_none (po_some (pv 1))))))), ?_⟩
    refine N.go (σ := [some (.ref a), none]) ?_
    walk_at "w"
    refine S.while_ (fun m σ f => σ = [some (.ref a), some (.int (m : Int))] ∧ f = [] ∧ m ≤ xs.length ∧ trim xs = trim (xs.take m)) xs.length ⟨rfl, rfl, Nat.le_refl _, by rw [List.take_length]⟩ ?_
    rintro m σ f ⟨rfl, rfl, hm, ht⟩
    walk_at "w"
    walk_at "if"
    · walk_at "w"
      walk_at "if"
      · -- one nought less
        walk_at "w"
        rename_i h1 h2
        have em : ((m : Int) - 1) = ((m - 1 : Nat) : Int) := by omega
        rw [em]
        refine Wl.nx (m' := m - 1) (by omega) ⟨rfl, rfl, by omega, ?_⟩
        rw [ht]
        have e2 : m = (m - 1) + 1 := by omega
        rw [em, gat_nat] at h2
        rw [e2, take_succ_getD (by omega : m - 1 < xs.length), h2, trim_zero]
        rfl
      · walk_at "w"
        rename_i h1 h2
        intro l
        have em : ((m : Int) - 1) = ((m - 1 : Nat) : Int) := by omega
        have e2 : m = (m - 1) + 1 := by omega
        rw [em, gat_nat] at h2
        have e3 : trim xs = xs.take m := by
          rw [ht, e2, take_succ_getD (by omega : m - 1 < xs.length), trim_last _ h2]
        rw [e3] at q
        have e4 : ((m : Int)).toNat = m := by simp
        rw [e4]
        exact NR.sub (q l) (by walk_at "sub")
    · walk_at "w"
      rename_i h1
      intro l
      have e0 : m = 0 := by omega
      subst e0
      have e3 : trim xs = [] := by rw [ht]; rfl
      rw [e3] at q
      exact NR.sub (q l) (by walk_at "sub")

end

section
variable {P : Program} {w : World} {K : PySem.W.Frag} {mg : Str → Option Value} {base : Heap}
/-- the same numbers -/
def sp__law_same : Sp := fun vs H Q _ => ∃ (a b : Addr) (xs : List Int), vs = [.ref a, .ref b] ∧ H a = some (.lst (zV xs)) ∧ H b = some (.lst (zV xs)) ∧ xs.length ≤ 100000 ∧ NR Q (.bl true) H []
theorem WC__law_same {H0 : Hp} {fs : Fs} {Φ : CV} {a b : Addr} {xs : List Int} (h : Rx H0 fs a (.lst (zV xs))) (h2 : Rx H0 fs b (.lst (zV xs))) (hl : xs.length ≤ 100000) (q : Φ (.bl true) fs) : WC sp__law_same [.ref a, .ref b] H0 fs Φ :=
  fun H k Q E c => ⟨a, b, xs, rfl, h H k, h2 H k, hl, fun H' k' => c _ _ _ (k.app k') q⟩
theorem ok__law_same (T : Txt K mg) : FnOk P w K mg base CX0 2 T.a__law_same T.d__law_same ["_law_found", "_law_due"] sp__law_same := by
  refine T.F__law_same.ok sc__law_same (fun vs H Q E h => ?_) (fun cdv A outer s H vs Q E hr h => ?_)
  · obtain ⟨a, b, xs, rfl, _⟩ := h; rfl
  · obtain ⟨a, b, xs, rfl, hA, hB, hl, q⟩ := h
    refine ⟨_, (pss_cons (ps_if (PW.pt (pw_or (pt_not (pt_val (pe_callB call_isi (by rfl) T.z_isinstance (by decide +kernel) (pa_cons (pv 0) (pa_cons (pe_bltn (v := .ty "list") (by rfl) T.z_list (by decide +kernel) rfl) pa_nil))))) (pw_or1 (pt_cmpR op_ne (pe_callB cLen (by rfl) T.z_len PySem.boot_len (pa_cons (pv 0) pa_nil)) (pe_callB cLen (by rfl) T.z_len PySem.boot_len (pa_cons (pv 1) pa_nil)) (nomark _))))) (pss_one (ps_ret pe_bl)) pss_nil)
      (pss_cons (ps_for PassesOwn.never rfl (pi_range1 rfl T.z_range (pa_cons (pe_callB cLen (by rfl) T.z_len PySem.boot_len (pa_cons (pv 1) pa_nil)) pa_nil)) (pg_name (i := 2) sc__law_same.nd rfl (Or.inl rfl)) (pss_one (ps_if (PW.pt (pw_or (pt_not (pt_val (pe_call (ok__law_whole T) (hr.mono (by decide)) (by rfl) T.m__law_whole T.F__law_whole.kp T.b__law_whole .nil pass0 (pa_cons (pe_ix ix_list (pv 0) (pv 2) (fun _ _ => rfl)) pa_nil)))) (pw_or1 (pt_cmpR op_ne (pe_ix ix_list (pv 0) (pv 2) (fun _ _ => rfl)) (pe_ix ix_list (pv 1) (pv 2) (fun _ _ => rfl)) (nomark _))))) (pss_one (ps_ret pe_bl)) pss_nil)))
      (pss_one (ps_ret pe_bl)))), ?_⟩
    refine N.go (σ := [some (.ref a), some (.ref b), none]) ?_
    walk_at "w"
    walk_at "if"
    walk_at "w"
    refine S.forR (n := (xs.length : Int)) (fun i σ f => (∃ y, σ = [some (.ref a), some (.ref b), y]) ∧ f = []) ?_ ?_ ?_
    · walk_at "w"
      exact ⟨rfl, by omega, by omega, ⟨_, rfl⟩, rfl⟩
    · rintro i σ f hi ⟨⟨y, rfl⟩, rfl⟩
      walk_at "d"
      walk_at "w"
      refine WC__law_whole ?_
      walk_at "w"
      walk_at "if"
      walk_at "w"
      walk_at "lp"
      exact ⟨⟨_, rfl⟩, rfl⟩
    · rintro σ f ⟨⟨y, rfl⟩, rfl⟩
      walk_at "w"
      walk_at "fin"

end

section
variable {P : Program} {w : World} {K : PySem.W.Frag} {mg : Str → Option Value} {base : Heap}
/-- a number drawn from a cell -/
def num__law_number (c : Int) : Int := if c % 7 = 0 then 0 else if c % 7 = 1 then (1 - c / 7 % 2 * 2) * (c / 14 % 10 ^ 60) else if c % 7 < 4 then c / 7 % 3 - 1 else c / 7 % 19 - 9
theorem num__law_number_bd (c : Int) : Bd 210 (num__law_number c) := by
  unfold num__law_number Bd
  have h1 : 0 ≤ c / 14 % 10 ^ 60 := Int.emod_nonneg _ (by decide)
  have h2 : c / 14 % 10 ^ 60 < 10 ^ 60 := Int.emod_lt_of_pos _ (by decide)
  have h3 : c / 7 % 2 = 0 ∨ c / 7 % 2 = 1 := by omega
  have e : (10 : Int) ^ 60 = 1000000000000000000000000000000000000000000000000000000000000 := by decide
  have e2 : (2 : Nat) ^ 210 = 1645504557321206042154969182557350504982735865633579863348609024 := by decide
  rw [e2]
  rw [e] at h1 h2 ⊢
  split
  · decide
  · split
    · rcases h3 with h3 | h3 <;> rw [h3] <;> omega
    · split
      · omega
      · omega
def sp__law_number : Sp := fun vs H Q _ => ∃ (c : Int), vs = [.int c] ∧ NR Q (.int (num__law_number c)) H []
theorem WC__law_number {H0 : Hp} {fs : Fs} {Φ : CV} {c : Int} (q : Φ (.int (num__law_number c)) fs) : WC sp__law_number [.int c] H0 fs Φ := fun H k Q E cc => ⟨c, rfl, fun H' k' => cc _ _ _ (k.app k') q⟩
theorem ok__law_number (T : Txt K mg) : FnOk P w K mg base CX0 1 T.a__law_number T.d__law_number ["_law_cell"] sp__law_number := by
  refine T.F__law_number.ok sc__law_number (fun vs H Q E h => ?_) (fun cdv A outer s H vs Q E hr h => ?_)
  · obtain ⟨c, rfl, _⟩ := h; rfl
  · obtain ⟨c, rfl, q⟩ := h
    refine ⟨_, (pss_cons (ps_if (pt_cmpR op_eq (pe_op op_mod (pv 0) pe_int) pe_int (nomark _)) (pss_one (ps_ret pe_int)) pss_nil)
      (pss_cons (ps_if (pt_cmpR op_eq (pe_op op_mod (pv 0) pe_int) pe_int (nomark _)) (pss_one (ps_ret (pe_op op_mulG (pe_op op_sub pe_int (pe_op op_mulG (pe_op op_mod (pe_op op_fdiv (pv 0) pe_int) pe_int) pe_int)) (pe_op op_mod (pe_op op_fdiv (pv 0) pe_int) (pe_op op_pow pe_int pe_int))))) pss_nil)
      (pss_cons (ps_if (pt_cmpR op_lt (pe_op op_mod (pv 0) pe_int) pe_int (nomark _)) (pss_one (ps_ret (pe_op op_sub (pe_op op_mod (pe_op op_fdiv (pv 0) pe_int) pe_int) pe_int))) pss_nil)
      (pss_one (ps_ret (pe_op op_sub (pe_op op_mod (pe_op op_fdiv (pv 0) pe_int) pe_int) pe_int)))))), ?_⟩
    refine N.go (σ := [some (.int c)]) ?_
    unfold num__law_number at q
    walk_at "w"
    walk_at "if"
    · rename_i h1
      rw [if_pos h1] at q
      walk_at "w"
      walk_at "fin"
    · rename_i h1
      rw [if_neg h1] at q
      walk_at "w"
      walk_at "if"
      · rename_i h2
        rw [if_pos h2] at q
        walk_at "w"
        walk_at "fin"
      · rename_i h2
        rw [if_neg h2] at q
        walk_at "w"
        walk_at "if"
        · rename_i h3
          rw [if_pos h3] at q
          walk_at "w"
          walk_at "fin"
        · rename_i h3
          rw [if_neg h3] at q
          walk_at "w"
          walk_at "fin"

end

section
variable {P : Program} {w : World} {K : PySem.W.Frag} {mg : Str → Option Value} {base : Heap}
/-- a drawn row -/
def drawn (ns : List Int) (place size many : Int) : List Int :=
  trim (if 0 < many then (List.range many.toNat).map (fun (k : Nat) => num__law_number (gat ns place + 97 * (k : Int) * (k : Int) + 13 * (k : Int)))
    else (List.range size.toNat).map (fun (k : Nat) => num__law_number (gat ns (place + (k : Int)))))
theorem drawn_len (ns : List Int) {place size many : Int} (h1 : size ≤ 100) (h2 : many ≤ 101) : (drawn ns place size many).length ≤ 101 := by
  unfold drawn
  refine Nat.le_trans (trim_length_le _) ?_
  split <;> (simp; omega)
theorem drawn_len2 (ns : List Int) {place size many : Int} {n : Nat} (h1 : size ≤ n) (h2 : many ≤ n) : (drawn ns place size many).length ≤ n := by
  unfold drawn
  refine Nat.le_trans (trim_length_le _) ?_
  split <;> (simp; omega)
theorem drawn_tr (ns : List Int) (place size many : Int) : Tr (drawn ns place size many) := tr_trim _
theorem drawn_bd (ns : List Int) (place size many : Int) : BdL 210 (drawn ns place size many) := by
  refine BdL.trim fun x hx => ?_
  split at hx
  · obtain ⟨k, _, rfl⟩ := List.mem_map.mp hx
    exact num__law_number_bd _
  · obtain ⟨k, _, rfl⟩ := List.mem_map.mp hx
    exact num__law_number_bd _
def sp__law_drawn (K : PySem.W.Frag) : Sp := fun vs H Q _ => ∃ (a : Addr) (ns : List Int) (place size many : Int), vs = [.ref a, .int place, .int size, .int many] ∧ SqL K H a (zV ns) ∧ 0 ≤ place ∧ (0 ≤ size ∧ size ≤ 1000) ∧ (0 ≤ many ∧ many ≤ 1000) ∧
  ∀ p, NR Q (.ref p) H [(p, .lst (zV (drawn ns place size many)))]
theorem WC__law_drawn {K : PySem.W.Frag} {H0 : Hp} {fs : Fs} {Φ : CV} {a : Addr} {ns : List Int} {place size many : Int} (h : Rl K H0 fs a (zV ns)) (hi : 0 ≤ place) (hs : 0 ≤ size ∧ size ≤ 1000) (hm : 0 ≤ many ∧ many ≤ 1000)
    (q : ∀ p, Φ (.ref p) ((p, .lst (zV (drawn ns place size many))) :: fs)) : WC (sp__law_drawn K) [.ref a, .int place, .int size, .int many] H0 fs Φ :=
  fun H k Q E c => ⟨a, ns, place, size, many, rfl, h H k, hi, hs, hm, fun p H' k' => c _ _ _ (k.app k') (q p)⟩
theorem ok__law_drawn (T : Txt K mg) : FnOk P w K mg base CX0 2 T.a__law_drawn T.d__law_drawn ["_law_script", "_law_place", "_law_size", "_law_many"] (sp__law_drawn K) := by
  refine T.F__law_drawn.ok sc__law_drawn (fun vs H Q E h => ?_) (fun cdv A outer s H vs Q E hr h => ?_)
  · obtain ⟨a, ns, place, size, many, rfl, _⟩ := h; rfl
  · obtain ⟨a, ns, place, size, many, rfl, hA, h0, hs, hm, q⟩ := h
    refine ⟨_, (pss_cons (ps_setLc (i := 4) (own := [("_law_k", 5)]) (g := gName 5) (tt := tYes) rfl sc__law_drawn.nd rfl rfl (sw_true rfl rfl rfl (by decide +kernel)) (pi_range1 rfl T.z_range (pa_cons (pv 2) pa_nil)) (blkOk_by (own := [("_law_k", 5)]) (N := ["_law_script", "_law_place", "_law_size", "_law_many", "_law_row", "_law_k"]) (sc := defScope s__law_drawn) (by decide +kernel)) (fun _ _ _ _ _ => pg_name (i := 5) sc__law_drawn.nd rfl (Or.inl rfl)) (fun _ _ _ _ _ => pts_nil) (fun _ _ _ _ _ => (pe_call (ok__law_number T) (hr.mono (by decide)) (by rfl) T.m__law_number T.F__law_number.kp T.b__law_number .nil pass0 (pa_cons (pe_call (ok__law_cell_at T) (hr.mono (by decide)) (by rfl) T.m__law_cell_at T.F__law_cell_at.kp T.b__law_cell_at .nil pass0 (pa_cons (pv 0) (pa_cons (pe_op op_add (pv 1) (pv 5)) pa_nil))) pa_nil))))
      (pss_cons (ps_if (pt_cmpR op_gt (pv 3) pe_int (nomark _)) (pss_one (ps_setLc (i := 4) (own := [("_law_k", 5)]) (g := gName 5) (tt := tYes) rfl sc__law_drawn.nd rfl rfl (sw_true rfl rfl rfl (by decide +kernel)) (pi_range1 rfl T.z_range (pa_cons (pv 3) pa_nil)) (blkOk_by (own := [("_law_k", 5)]) (N := ["_law_script", "_law_place", "_law_size", "_law_many", "_law_row", "_law_k"]) (sc := defScope s__law_drawn) (by decide +kernel)) (fun _ _ _ _ _ => pg_name (i := 5) sc__law_drawn.nd rfl (Or.inl rfl)) (fun _ _ _ _ _ => pts_nil) (fun _ _ _ _ _ => (pe_call (ok__law_number T) (hr.mono (by decide)) (by rfl) T.m__law_number T.F__law_number.kp T.b__law_number .nil pass0 (pa_cons (pe_op op_add (pe_op op_add (pe_call (ok__law_cell_at T) (hr.mono (by decide)) (by rfl) T.m__law_cell_at T.F__law_cell_at.kp T.b__law_cell_at .nil pass0 (pa_cons (pv 0) (pa_cons (pv 1) pa_nil))) (pe_op op_mulG (pe_op op_mulG pe_int (pv 5)) (pv 5))) (pe_op op_mulG pe_int (pv 5))) pa_nil))))) pss_nil)
      (pss_one (ps_ret (pe_call (ok__law_trim T) (hr.mono (by decide)) (by rfl) T.m__law_trim T.F__law_trim.kp T.b__law_trim .nil pass0 (pa_cons (pv 4) pa_nil)))))), ?_⟩
    refine N.go (σ := [some (.ref a), some (.int place), some (.int size), some (.int many), none, none]) ?_
    walk_at "w"
    refine W.lcRz (n := size) (fun (k : Nat) => num__law_number (gat ns (place + (k : Int)))) ?_
    walk_at "w"
    refine ⟨rfl, by omega, by omega, fun _ => rfl, fun i D acc hi => ?_, fun D => ?_⟩
    · walk_at "d"
      walk_at "w"
      refine WC__law_cell_at (ns := ns) (by walk_at "rl") (by omega) ?_
      walk_at "w"
      refine WC__law_number ?_
      exact ⟨rfl, by walk_at "sub"⟩
    · walk_at "d"
      walk_at "w"
      walk_at "if"
      · walk_at "w"
        rename_i hpos
        refine W.lcRz (n := many) (fun (k : Nat) => num__law_number (gat ns place + 97 * (k : Int) * (k : Int) + 13 * (k : Int))) ?_
        walk_at "w"
        refine ⟨rfl, by omega, by omega, fun _ => rfl, fun i D acc hi => ?_, fun D => ?_⟩
        · walk_at "d"
          walk_at "w"
          refine WC__law_cell_at (ns := ns) (by walk_at "rl") (by omega) ?_
          walk_at "w"
          refine WC__law_number ?_
          exact ⟨rfl, by walk_at "sub"⟩
        · walk_at "d"
          walk_at "w"
          refine WC__law_trim (by walk_at "rx") (by simp; omega) fun p => ?_
          unfold drawn at q
          rw [if_pos hpos] at q
          exact NR.sub (q p) (by walk_at "sub")
      · walk_at "w"
        rename_i hpos
        refine WC__law_trim (by walk_at "rx") (by simp; omega) fun p => ?_
        unfold drawn at q
        rw [if_neg hpos] at q
        exact NR.sub (q p) (by walk_at "sub")

end

section
variable {P : Program} {w : World} {K : PySem.W.Frag} {mg : Str → Option Value} {base : Heap}
def sp__law_written : Sp := fun vs H Q _ => ∃ (a : Addr) (xs : List Int), vs = [.ref a] ∧ H a = some (.lst (zV xs)) ∧ xs.length ≤ 900 ∧ BdL 210 xs ∧ NR Q (.str (tx (wr xs))) H []
theorem WC__law_written {H0 : Hp} {fs : Fs} {Φ : CV} {a : Addr} {xs : List Int} (h : Rx H0 fs a (.lst (zV xs))) (hl : xs.length ≤ 900) (hb : BdL 210 xs) (q : Φ (.str (tx (wr xs))) fs) : WC sp__law_written [.ref a] H0 fs Φ := fun H k Q E cc => ⟨a, xs, rfl, h H k, hl, hb, fun H' k' => cc _ _ _ (k.app k') q⟩
theorem num_log' {p : Nat} (h : p < 2 ^ 210) : p.log2 < 1920 := by
  by_cases h0 : p = 0
  · subst h0; decide
  · have := (Nat.log2_lt h0).mpr h
    omega
theorem ok__law_written (T : Txt K mg) : FnOk P w K mg base CX0 1 T.a__law_written T.d__law_written ["_law_row"] sp__law_written := by
  refine T.F__law_written.ok sc__law_written (fun vs H Q E h => ?_) (fun cdv A outer s H vs Q E hr h => ?_)
  · obtain ⟨a, xs, rfl, _⟩ := h; rfl
  · obtain ⟨a, xs, rfl, hA, hl, hb, q⟩ := h
    refine ⟨_, (pss_cons (ps_set (i := 1) sc__law_written.nd rfl (Or.inl rfl) (pe_strL (l := []) (by decide +kernel)))
      (pss_cons (ps_for PassesOwn.never rfl (pi_range1 rfl T.z_range (pa_cons (pe_callB cLen (by rfl) T.z_len PySem.boot_len (pa_cons (pv 0) pa_nil)) pa_nil)) (pg_name (i := 2) sc__law_written.nd rfl (Or.inl rfl)) (pss_cons (ps_set (i := 3) sc__law_written.nd rfl (Or.inl rfl) (pe_op op_sub (pe_op op_sub (pe_callB cLen (by rfl) T.z_len PySem.boot_len (pa_cons (pv 0) pa_nil)) pe_int) (pv 2)))
      (pss_one (ps_if (pt_cmpR op_ne (pe_ix ix_list (pv 0) (pv 3) (fun _ _ => rfl)) pe_int (nomark _)) (pss_cons (ps_set (i := 4) sc__law_written.nd rfl (Or.inl rfl) (pe_callTy cStr (by rfl) T.z_str (by decide +kernel) (pa_cons (pe_callB cAbs (by rfl) T.z_abs (by decide +kernel) (pa_cons (pe_ix ix_list (pv 0) (pv 3) (fun _ _ => rfl)) pa_nil)) pa_nil)))
      (pss_cons (ps_if (PW.pt (pw_and (pt_cmpR op_gt (pv 3) pe_int (nomark _)) (pw_and1 (pt_cmpR op_eq (pv 4) (pe_strL (l := [49]) (by decide +kernel)) (nomark _))))) (pss_one (ps_set (i := 4) sc__law_written.nd rfl (Or.inl rfl) (pe_strL (l := []) (by decide +kernel)))) pss_nil)
      (pss_cons (ps_if (pt_cmpR op_eq (pv 3) pe_int (nomark _)) (pss_one (ps_set (i := 4) sc__law_written.nd rfl (Or.inl rfl) (pe_op op_addX (pv 4) (pe_strL (l := [120]) (by decide +kernel))))) pss_nil)
      (pss_cons (ps_if (pt_cmpR op_gt (pv 3) pe_int (nomark _)) (pss_one (ps_set (i := 4) sc__law_written.nd rfl (Or.inl rfl) (pe_op op_addX (pe_op op_addX (pv 4) (pe_strL (l := [120, 94]) (by decide +kernel))) (pe_callTy cStr (by rfl) T.z_str (by decide +kernel) (pa_cons (pv 3) pa_nil))))) pss_nil)
      (pss_cons (ps_if (PW.pt (pw_and (pt_cmpR op_ne (pv 1) (pe_strL (l := []) (by decide +kernel)) (nomark _)) (pw_and1 (pt_cmpR op_gt (pe_ix ix_list (pv 0) (pv 3) (fun _ _ => rfl)) pe_int (nomark _))))) (pss_one (ps_set (i := 4) sc__law_written.nd rfl (Or.inl rfl) (pe_op op_addX (pe_strL (l := [32, 43, 32]) (by decide +kernel)) (pv 4)))) pss_nil)
      (pss_cons (ps_if (PW.pt (pw_and (pt_cmpR op_ne (pv 1) (pe_strL (l := []) (by decide +kernel)) (nomark _)) (pw_and1 (pt_cmpR op_lt (pe_ix ix_list (pv 0) (pv 3) (fun _ _ => rfl)) pe_int (nomark _))))) (pss_one (ps_set (i := 4) sc__law_written.nd rfl (Or.inl rfl) (pe_op op_addX (pe_strL (l := [32, 45, 32]) (by decide +kernel)) (pv 4)))) pss_nil)
      (pss_cons (ps_if (PW.pt (pw_and (pt_cmpR op_eq (pv 1) (pe_strL (l := []) (by decide +kernel)) (nomark _)) (pw_and1 (pt_cmpR op_lt (pe_ix ix_list (pv 0) (pv 3) (fun _ _ => rfl)) pe_int (nomark _))))) (pss_one (ps_set (i := 4) sc__law_written.nd rfl (Or.inl rfl) (pe_op op_addX (pe_strL (l := [45]) (by decide +kernel)) (pv 4)))) pss_nil)
      (pss_one (ps_set (i := 1) sc__law_written.nd rfl (Or.inl rfl) (pe_op op_addX (pv 1) (pv 4))))))))))) pss_nil))))
      (pss_cons (ps_if (pt_cmpR op_eq (pv 1) (pe_strL (l := []) (by decide +kernel)) (nomark _)) (pss_one (ps_ret (pe_strL (l := [48]) (by decide +kernel)))) pss_nil)
      (pss_one (ps_ret (pv 1)))))), ?_⟩
    refine N.go (σ := [some (.ref a), none, none, none, none]) ?_
    walk_at "w"
    walk_at "d"
    refine S.forR (n := (xs.length : Int)) (fun t σ f => ∃ y1 y2 y3, σ = [some (.ref a), some (.str (tx (wrs xs t))), y1, y2, y3] ∧ f = []) ?_ ?_ ?_
    · walk_at "w"
      exact ⟨rfl, by omega, by omega, none, none, none, rfl, rfl⟩
    · rintro t σ f ht ⟨y1, y2, y3, rfl, rfl⟩
      have hwl := wrs_len hb hl t
      have hstep : wrs xs (t + 1) = if xs.getD (xs.length - 1 - t) 0 = 0 then wrs xs t else wrs xs t ++ sgn (wrs xs t) (xs.getD (xs.length - 1 - t) 0) ++ trm (xs.getD (xs.length - 1 - t) 0).natAbs (xs.length - 1 - t) := rfl
      have hnb : (xs.getD (xs.length - 1 - t) 0).natAbs < 2 ^ 210 := hb.at _
      generalize wrs xs t = fnd at hstep hwl
      walk_at "d"
      walk_at "w"
      have eP : (xs.length : Int) - 1 - (t : Int) = ((xs.length - 1 - t : Nat) : Int) := by omega
      rw [eP]
      walk_at "d"
      have hp : xs.length - 1 - t < 1000 := by omega
      have hix : 0 ≤ ((xs.length - 1 - t : Nat) : Int) ∧ ((xs.length - 1 - t : Nat) : Int) < (xs.length : Int) := by omega
      have hg : gat xs ((xs.length - 1 - t : Nat) : Int) = xs.getD (xs.length - 1 - t) 0 := gat_nat _ _
      generalize xs.length - 1 - t = p at hstep hnb hp hix hg
      generalize xs.getD p 0 = n at hstep hnb hg
      walk_at "w"
      rw [hg]
      by_cases h0 : n = 0
      · rw [decide_eq_true h0]
        rw [if_pos h0] at hstep
        walk_at "w"
        rw [← hstep]
        walk_at "lp"
        exact ⟨_, _, _, rfl, rfl⟩
      rw [decide_eq_false h0]
      rw [if_neg h0] at hstep
      have l1 := numL_len64 hnb
      have l2 := TL.numL_len (n := p) (k := 3) (by decide) (by omega)
      obtain ⟨w1, hw1⟩ : ∃ s : List Nat, s = if 0 < p ∧ TL.numL n.natAbs = [49] then [] else TL.numL n.natAbs := ⟨_, rfl⟩
      obtain ⟨w2, hw2⟩ : ∃ s : List Nat, s = if p = 1 then w1 ++ [120] else w1 := ⟨_, rfl⟩
      obtain ⟨w3, hw3⟩ : ∃ s : List Nat, s = if 1 < p then w2 ++ [120, 94] ++ TL.numL p else w2 := ⟨_, rfl⟩
      obtain ⟨w4, hw4⟩ : ∃ s : List Nat, s = if fnd ≠ [] ∧ 0 < n then [32, 43, 32] ++ w3 else w3 := ⟨_, rfl⟩
      obtain ⟨w5, hw5⟩ : ∃ s : List Nat, s = if fnd ≠ [] ∧ n < 0 then [32, 45, 32] ++ w4 else w4 := ⟨_, rfl⟩
      obtain ⟨w6, hw6⟩ : ∃ s : List Nat, s = if fnd = [] ∧ n < 0 then [45] ++ w5 else w5 := ⟨_, rfl⟩
      have e3 : w3 = trm n.natAbs p := by
        unfold trm lett
        have hone : TL.numL n.natAbs = [49] ↔ n.natAbs = 1 := numL_one
        have ew1 : w1 = if n.natAbs = 1 ∧ 0 < p then [] else TL.numL n.natAbs := by
          rw [hw1]
          by_cases c1 : n.natAbs = 1 ∧ 0 < p
          · rw [if_pos c1, if_pos ⟨c1.2, hone.mpr c1.1⟩]
          · rw [if_neg c1, if_neg (fun z => c1 ⟨hone.mp z.2, z.1⟩)]
        rw [← ew1]
        by_cases p0 : p = 0
        · rw [if_pos p0, hw3, if_neg (by omega), hw2, if_neg (by omega), List.append_nil]
        · rw [if_neg p0]
          by_cases p1 : p = 1
          · rw [if_pos p1, hw3, if_neg (by omega), hw2, if_pos p1]
          · rw [if_neg p1, hw3, if_pos (by omega), hw2, if_neg p1, List.append_assoc]
      have e6 : w6 = sgn fnd n ++ w3 := by
        unfold sgn
        by_cases he : fnd = []
        · have a4 : w4 = w3 := by rw [hw4, if_neg (fun z => z.1 he)]
          have a5 : w5 = w4 := by rw [hw5, if_neg (fun z => z.1 he)]
          rw [if_pos he]
          by_cases hn : n < 0
          · rw [if_pos hn, hw6, if_pos ⟨he, hn⟩, a5, a4]
          · rw [if_neg hn, hw6, if_neg (fun z => hn z.2), a5, a4]; rfl
        · have a6 : w6 = w5 := by rw [hw6, if_neg (fun z => he z.1)]
          rw [if_neg he]
          by_cases hn : n < 0
          · have a4 : w4 = w3 := by rw [hw4, if_neg (fun z => by have := z.2; omega)]
            rw [if_pos hn, a6, hw5, if_pos ⟨he, hn⟩, a4]
          · have a5 : w5 = w4 := by rw [hw5, if_neg (fun z => hn z.2)]
            rw [if_neg hn, a6, a5, hw4, if_pos ⟨he, by omega⟩]
      have k1 : w1.length ≤ 64 := by rw [hw1]; split <;> (try simp) <;> omega
      have k2 : w2.length ≤ 65 := by rw [hw2]; split <;> (try simp) <;> omega
      have k3 : w3.length ≤ 70 := by rw [hw3]; split <;> (try simp) <;> omega
      have k4 : w4.length ≤ 73 := by rw [hw4]; split <;> (try simp) <;> omega
      have k5 : w5.length ≤ 76 := by rw [hw5]; split <;> (try simp) <;> omega
      have k6 : w6.length ≤ 77 := by rw [hw6]; split <;> (try simp) <;> omega
      walk_at "w0"
      rw [hg]
      walk_at "w0"
      refine RC.strI (num_log' hnb) ?_
      walk_at "w0"
      walk_at "d"
      refine S.ifset (.str (tx w1)) ?_ ?_
      · walk_at "w"
        by_cases c1 : 0 < p
        · rw [decide_eq_true (show (0 : Int) < (p : Int) by omega)]
          walk_at "w"
          refine ⟨rfl, fun hb => ?_, fun hb => ?_⟩
          · walk_at "w"
            rw [hw1, if_pos ⟨c1, of_decide_eq_true hb⟩]
            exact ⟨rfl, rfl⟩
          · rw [hw1, if_neg (fun z => of_decide_eq_false hb z.2)]
            rfl
        · rw [decide_eq_false (show ¬ (0 : Int) < (p : Int) by omega)]
          walk_at "w"
          refine ⟨rfl, fun hb => Bool.noConfusion hb, fun _ => ?_⟩
          rw [hw1, if_neg (fun z => c1 z.1)]
          rfl
      walk_at "d"
      refine S.seq ?_
      refine S.ifset (.str (tx w2)) ?_ ?_
      · walk_at "w"
        refine ⟨rfl, fun hb => ?_, fun hb => ?_⟩
        · walk_at "w"
          refine RW.addS (by simp; omega) ?_
          have := of_decide_eq_true hb
          rw [hw2, if_pos (by omega)]
          exact ⟨rfl, rfl⟩
        · have := of_decide_eq_false hb
          rw [hw2, if_neg (by omega)]
          rfl
      walk_at "d"
      refine S.seq ?_
      refine S.ifset (.str (tx w3)) ?_ ?_
      · walk_at "w"
        refine ⟨rfl, fun hb => ?_, fun hb => ?_⟩
        · walk_at "w"
          refine RW.addS (by simp; omega) ?_
          walk_at "w"
          refine RC.strI (num_log' (Nat.lt_of_lt_of_le hp (by decide))) ?_
          refine RW.addS (by simp; omega) ?_
          have := of_decide_eq_true hb
          rw [hw3, if_pos (by omega)]
          exact ⟨rfl, rfl⟩
        · have := of_decide_eq_false hb
          rw [hw3, if_neg (by omega)]
          rfl
      walk_at "d"
      refine S.seq ?_
      refine S.ifset (.str (tx w4)) ?_ ?_
      · walk_at "w"
        by_cases c1 : fnd = []
        · rw [decide_eq_true c1]
          walk_at "w"
          refine ⟨rfl, fun hb => Bool.noConfusion hb, fun _ => ?_⟩
          rw [hw4, if_neg (fun z => z.1 c1)]
          rfl
        · rw [decide_eq_false c1]
          walk_at "w"
          rw [hg]
          refine ⟨rfl, fun hb => ?_, fun hb => ?_⟩
          · walk_at "w"
            refine RW.addS (by simp; omega) ?_
            rw [hw4, if_pos ⟨c1, of_decide_eq_true hb⟩]
            exact ⟨rfl, rfl⟩
          · rw [hw4, if_neg (fun z => of_decide_eq_false hb z.2)]
            rfl
      walk_at "d"
      refine S.seq ?_
      refine S.ifset (.str (tx w5)) ?_ ?_
      · walk_at "w"
        by_cases c1 : fnd = []
        · rw [decide_eq_true c1]
          walk_at "w"
          refine ⟨rfl, fun hb => Bool.noConfusion hb, fun _ => ?_⟩
          rw [hw5, if_neg (fun z => z.1 c1)]
          rfl
        · rw [decide_eq_false c1]
          walk_at "w"
          rw [hg]
          refine ⟨rfl, fun hb => ?_, fun hb => ?_⟩
          · walk_at "w"
            refine RW.addS (by simp; omega) ?_
            rw [hw5, if_pos ⟨c1, of_decide_eq_true hb⟩]
            exact ⟨rfl, rfl⟩
          · rw [hw5, if_neg (fun z => of_decide_eq_false hb z.2)]
            rfl
      walk_at "d"
      refine S.seq ?_
      refine S.ifset (.str (tx w6)) ?_ ?_
      · walk_at "w"
        by_cases c1 : fnd = []
        · rw [decide_eq_true c1]
          walk_at "w"
          rw [hg]
          refine ⟨rfl, fun hb => ?_, fun hb => ?_⟩
          · walk_at "w"
            refine RW.addS (by simp; omega) ?_
            rw [hw6, if_pos ⟨c1, of_decide_eq_true hb⟩]
            exact ⟨rfl, rfl⟩
          · rw [hw6, if_neg (fun z => of_decide_eq_false hb z.2)]
            rfl
        · rw [decide_eq_false c1]
          walk_at "w"
          refine ⟨rfl, fun hb => Bool.noConfusion hb, fun _ => ?_⟩
          rw [hw6, if_neg (fun z => c1 z.1)]
          rfl
      walk_at "d"
      walk_at "w"
      refine RW.addS (by omega) ?_
      rw [e6, e3, ← List.append_assoc, ← hstep]
      walk_at "d"
      walk_at "lp"
      exact ⟨_, _, _, rfl, rfl⟩
    · rintro σ f ⟨y1, y2, y3, rfl, rfl⟩
      have ek : ((xs.length : Int)).toNat = xs.length := by simp
      rw [ek]
      unfold wr at q
      walk_at "w"
      by_cases he : wrs xs xs.length = []
      · rw [if_pos he] at q
        rw [decide_eq_true he]
        walk_at "w"
        exact NR.sub q (by walk_at "sub")
      · rw [if_neg he] at q
        rw [decide_eq_false he]
        walk_at "w"
        exact NR.sub q (by walk_at "sub")

end

section
variable {P : Program} {w : World} {K : PySem.W.Frag} {mg : Str → Option Value} {base : Heap}
def sp_law (K : PySem.W.Frag) : Sp := fun vs H Q _ => ∃ (a : Addr) (ns : List Int), vs = [.ref a] ∧ SqL K H a (ns.map V.int) ∧ ns.length ≤ 63 ∧ ∀ H', Q (.bl true) H'
theorem ok_law (T : Txt K mg) : FnOk P w K mg base CX0 5 T.a_law T.d_law ["_law_script"] (sp_law K) := by
  refine T.F_law.ok sc_law (fun vs H Q E h => ?_) (fun cdv A outer s H vs Q E hr h => ?_)
  · obtain ⟨a, ns, rfl, _⟩ := h; rfl
  · obtain ⟨a, ns, rfl, hA, hl, q⟩ := h
    have hA : SqL K H a (zV ns) := hA
    refine ⟨_, (pss_cons (ps_set (i := 1) sc_law.nd rfl (Or.inl rfl) (pe_call (ok__law_cell_at T) (hr.mono (by decide)) (by rfl) T.m__law_cell_at T.F__law_cell_at.kp T.b__law_cell_at .nil pass0 (pa_cons (pv 0) (pa_cons pe_int pa_nil))))
      (pss_cons (ps_set (i := 2) sc_law.nd rfl (Or.inl rfl) pe_int)
      (pss_cons (ps_if (pt_cmpR op_eq (pe_op op_mod (pv 1) pe_int) pe_int (nomark _)) (pss_one (ps_set (i := 2) sc_law.nd rfl (Or.inl rfl) (pe_op op_mod (pe_op op_fdiv (pv 1) pe_int) pe_int))) pss_nil)
      (pss_cons (ps_set (i := 3) sc_law.nd rfl (Or.inl rfl) (pe_call (ok__law_drawn T) (hr.mono (by decide)) (by rfl) T.m__law_drawn T.F__law_drawn.kp T.b__law_drawn .nil pass0 (pa_cons (pv 0) (pa_cons pe_int (pa_cons (pe_op op_mod (pe_op op_fdiv (pv 1) pe_int) pe_int) (pa_cons (pv 2) pa_nil))))))
      (pss_cons (ps_set (i := 4) sc_law.nd rfl (Or.inl rfl) (pe_callTy cListOf (by rfl) T.z_list (by decide +kernel) (pa_cons (pv 3) pa_nil)))
      (pss_cons (ps_set (i := 5) sc_law.nd rfl (Or.inl rfl) (pe_call (ok_shown T) (hr.mono (by decide)) (by rfl) T.m_shown T.F_shown.kp T.b_shown .nil pass0 (pa_cons (pv 4) pa_nil)))
      (pss_cons (ps_if (PW.pt (pw_or (pt_not (pt_val (pe_callB call_isi (by rfl) T.z_isinstance (by decide +kernel) (pa_cons (pv 5) (pa_cons (pe_bltn (v := .ty "str") (by rfl) T.z_str (by decide +kernel) rfl) pa_nil))))) (pw_or (pt_cmpR op_ne (pv 5) (pe_call (ok__law_written T) (hr.mono (by decide)) (by rfl) T.m__law_written T.F__law_written.kp T.b__law_written .nil pass0 (pa_cons (pv 3) pa_nil)) (nomark _)) (pw_or1 (pt_not (pt_val (pe_call (ok__law_same T) (hr.mono (by decide)) (by rfl) T.m__law_same T.F__law_same.kp T.b__law_same .nil pass0 (pa_cons (pv 4) (pa_cons (pv 3) pa_nil))))))))) (pss_one (ps_ret pe_bl)) pss_nil)
      (pss_one (ps_ret (pe_call (ok__law_same T) (hr.mono (by decide)) (by rfl) T.m__law_same T.F__law_same.kp T.b__law_same .nil pass0 (pa_cons (pe_call (ok_read T) (hr.mono (by decide)) (by rfl) T.m_read T.F_read.kp T.b_read .nil pass0 (pa_cons (pv 5) pa_nil)) (pa_cons (pv 3) pa_nil)))))))))))), ?_⟩
    refine N.go (σ := [some (.ref a), none, none, none, none, none]) ?_
    walk_at "w"
    refine WC__law_cell_at (ns := ns) (by walk_at "rl") (by omega) ?_
    generalize gat ns 0 = first
    walk_at "d"
    walk_at "w0"
    walk_at "d"
    obtain ⟨many, hmany⟩ : ∃ m, m = if first % 4 = 1 then first / 4 % 101 else 0 := ⟨_, rfl⟩
    have hm : 0 ≤ many ∧ many ≤ 100 := by
      rw [hmany]; split <;> omega
    refine S.ifset (.int many) ?_ ?_
    · walk_at "w"
      refine ⟨rfl, fun hb => ?_, fun hb => ?_⟩
      · walk_at "w"
        rw [hmany, if_pos (of_decide_eq_true hb)]
        exact ⟨rfl, rfl⟩
      · rw [hmany, if_neg (of_decide_eq_false hb)]
        rfl
    walk_at "d"
    walk_at "w"
    refine WC__law_drawn (ns := ns) (by walk_at "rl") (by omega) (by omega) (by omega) fun r1 => ?_
    have hlen1 : (drawn ns 1 (first / 4 % 8) many).length ≤ 100 := drawn_len2 ns (by omega) (by omega)
    have hbd1 := drawn_bd ns 1 (first / 4 % 8) many
    have htr1 := drawn_tr ns 1 (first / 4 % 8) many
    generalize drawn ns 1 (first / 4 % 8) many = xs at hlen1 hbd1 htr1
    walk_at "d"
    walk_at "w"
    intro hh
    walk_at "d"
    walk_at "w"
    refine WC_shown (xs := xs) (by walk_at "rx") (by omega) hbd1 ?_
    walk_at "d"
    walk_at "w"
    refine RC.isiSS ?_
    walk_at "w"
    refine WC__law_written (xs := xs) (by walk_at "rx") (by omega) hbd1 ?_
    walk_at "w"
    rw [decide_eq_true (rfl : wr xs = wr xs)]
    walk_at "w"
    refine WC__law_same (xs := xs) (by walk_at "rx") (by walk_at "rx") (by omega) ?_
    walk_at "w"
    refine WC_read htr1 hlen1 hbd1 fun r2 => ?_
    walk_at "w"
    refine WC__law_same (xs := xs) (by walk_at "rx") (by walk_at "rx") (by omega) ?_
    exact fun H' _ => q H'

end
open PySem PySem.Spec PyProof.Rows L2 in
theorem all_mk {l : PySem.W.OpenLaw} {w : World} {K : PySem.W.Frag} {h : Heap} {mg : Str → Option Value} {fa : Addr} (X : K.In h) (G : h.Ns mainGlobals mg) (hfa : mg "law" = some (.ref fa))
    {f_trimmed f_letters f_term f_shown f_whole_of f_power_of f_read_term f_read f__law_whole f__law_cell_at f__law_trim f__law_same f__law_number f__law_drawn f__law_written f_law : Addr} {od_trimmed an_trimmed od_letters an_letters od_term an_term od_shown an_shown od_whole_of an_whole_of od_power_of an_power_of od_read_term an_read_term od_read an_read od__law_whole an__law_whole od__law_cell_at an__law_cell_at od__law_trim an__law_trim od__law_same an__law_same od__law_number an__law_number od__law_drawn an__law_drawn od__law_written an__law_written od_law an_law : Option Addr} {sl_trimmed sl_letters sl_term sl_shown sl_whole_of sl_power_of sl_read_term sl_read sl__law_whole sl__law_cell_at sl__law_trim sl__law_same sl__law_number sl__law_drawn sl__law_written sl_law : Array (Option Value)} {oc_trimmed kV_trimmed dc_trimmed pm_trimmed cd_trimmed ct_trimmed oc_letters kV_letters dc_letters pm_letters cd_letters ct_letters oc_term kV_term dc_term pm_term cd_term ct_term oc_shown kV_shown dc_shown pm_shown cd_shown ct_shown oc_whole_of kV_whole_of dc_whole_of pm_whole_of cd_whole_of ct_whole_of oc_power_of kV_power_of dc_power_of pm_power_of cd_power_of ct_power_of oc_read_term kV_read_term dc_read_term pm_read_term cd_read_term ct_read_term oc_read kV_read dc_read pm_read cd_read ct_read oc__law_whole kV__law_whole dc__law_whole pm__law_whole cd__law_whole ct__law_whole oc__law_cell_at kV__law_cell_at dc__law_cell_at pm__law_cell_at cd__law_cell_at ct__law_cell_at oc__law_trim kV__law_trim dc__law_trim pm__law_trim cd__law_trim ct__law_trim oc__law_same kV__law_same dc__law_same pm__law_same cd__law_same ct__law_same oc__law_number kV__law_number dc__law_number pm__law_number cd__law_number ct__law_number oc__law_drawn kV__law_drawn dc__law_drawn pm__law_drawn cd__law_drawn ct__law_drawn oc__law_written kV__law_written dc__law_written pm__law_written cd__law_written ct__law_written oc_law kV_law dc_law pm_law cd_law ct_law : Value}
    (a_trimmed : PySem.W.nsIn K mainGlobals "trimmed" = some (some (.ref f_trimmed))) (l_trimmed : K.lookup f_trimmed = some ⟨oc_trimmed, od_trimmed, .func (PySem.W.fnOf "trimmed" "trimmed" (defArgs s_trimmed) (defBody s_trimmed) (defScope s_trimmed) .none kV_trimmed dc_trimmed pm_trimmed an_trimmed cd_trimmed ct_trimmed), sl_trimmed⟩) (c_trimmed : PySem.W.codeIn K cd_trimmed "trimmed" = true) (k_trimmed : PySem.W.keepIn K (.ref f_trimmed) = true)
    (a_letters : PySem.W.nsIn K mainGlobals "letters" = some (some (.ref f_letters))) (l_letters : K.lookup f_letters = some ⟨oc_letters, od_letters, .func (PySem.W.fnOf "letters" "letters" (defArgs s_letters) (defBody s_letters) (defScope s_letters) .none kV_letters dc_letters pm_letters an_letters cd_letters ct_letters), sl_letters⟩) (c_letters : PySem.W.codeIn K cd_letters "letters" = true) (k_letters : PySem.W.keepIn K (.ref f_letters) = true)
    (a_term : PySem.W.nsIn K mainGlobals "term" = some (some (.ref f_term))) (l_term : K.lookup f_term = some ⟨oc_term, od_term, .func (PySem.W.fnOf "term" "term" (defArgs s_term) (defBody s_term) (defScope s_term) .none kV_term dc_term pm_term an_term cd_term ct_term), sl_term⟩) (c_term : PySem.W.codeIn K cd_term "term" = true) (k_term : PySem.W.keepIn K (.ref f_term) = true)
    (a_shown : PySem.W.nsIn K mainGlobals "shown" = some (some (.ref f_shown))) (l_shown : K.lookup f_shown = some ⟨oc_shown, od_shown, .func (PySem.W.fnOf "shown" "shown" (defArgs s_shown) (defBody s_shown) (defScope s_shown) .none kV_shown dc_shown pm_shown an_shown cd_shown ct_shown), sl_shown⟩) (c_shown : PySem.W.codeIn K cd_shown "shown" = true) (k_shown : PySem.W.keepIn K (.ref f_shown) = true)
    (a_whole_of : PySem.W.nsIn K mainGlobals "whole_of" = some (some (.ref f_whole_of))) (l_whole_of : K.lookup f_whole_of = some ⟨oc_whole_of, od_whole_of, .func (PySem.W.fnOf "whole_of" "whole_of" (defArgs s_whole_of) (defBody s_whole_of) (defScope s_whole_of) .none kV_whole_of dc_whole_of pm_whole_of an_whole_of cd_whole_of ct_whole_of), sl_whole_of⟩) (c_whole_of : PySem.W.codeIn K cd_whole_of "whole_of" = true) (k_whole_of : PySem.W.keepIn K (.ref f_whole_of) = true)
    (a_power_of : PySem.W.nsIn K mainGlobals "power_of" = some (some (.ref f_power_of))) (l_power_of : K.lookup f_power_of = some ⟨oc_power_of, od_power_of, .func (PySem.W.fnOf "power_of" "power_of" (defArgs s_power_of) (defBody s_power_of) (defScope s_power_of) .none kV_power_of dc_power_of pm_power_of an_power_of cd_power_of ct_power_of), sl_power_of⟩) (c_power_of : PySem.W.codeIn K cd_power_of "power_of" = true) (k_power_of : PySem.W.keepIn K (.ref f_power_of) = true)
    (a_read_term : PySem.W.nsIn K mainGlobals "read_term" = some (some (.ref f_read_term))) (l_read_term : K.lookup f_read_term = some ⟨oc_read_term, od_read_term, .func (PySem.W.fnOf "read_term" "read_term" (defArgs s_read_term) (defBody s_read_term) (defScope s_read_term) .none kV_read_term dc_read_term pm_read_term an_read_term cd_read_term ct_read_term), sl_read_term⟩) (c_read_term : PySem.W.codeIn K cd_read_term "read_term" = true) (k_read_term : PySem.W.keepIn K (.ref f_read_term) = true)
    (a_read : PySem.W.nsIn K mainGlobals "read" = some (some (.ref f_read))) (l_read : K.lookup f_read = some ⟨oc_read, od_read, .func (PySem.W.fnOf "read" "read" (defArgs s_read) (defBody s_read) (defScope s_read) .none kV_read dc_read pm_read an_read cd_read ct_read), sl_read⟩) (c_read : PySem.W.codeIn K cd_read "read" = true) (k_read : PySem.W.keepIn K (.ref f_read) = true)
    (a__law_whole : PySem.W.nsIn K mainGlobals "_law_whole" = some (some (.ref f__law_whole))) (l__law_whole : K.lookup f__law_whole = some ⟨oc__law_whole, od__law_whole, .func (PySem.W.fnOf "_law_whole" "_law_whole" (defArgs s__law_whole) (defBody s__law_whole) (defScope s__law_whole) .none kV__law_whole dc__law_whole pm__law_whole an__law_whole cd__law_whole ct__law_whole), sl__law_whole⟩) (c__law_whole : PySem.W.codeIn K cd__law_whole "_law_whole" = true) (k__law_whole : PySem.W.keepIn K (.ref f__law_whole) = true)
    (a__law_cell_at : PySem.W.nsIn K mainGlobals "_law_cell_at" = some (some (.ref f__law_cell_at))) (l__law_cell_at : K.lookup f__law_cell_at = some ⟨oc__law_cell_at, od__law_cell_at, .func (PySem.W.fnOf "_law_cell_at" "_law_cell_at" (defArgs s__law_cell_at) (defBody s__law_cell_at) (defScope s__law_cell_at) .none kV__law_cell_at dc__law_cell_at pm__law_cell_at an__law_cell_at cd__law_cell_at ct__law_cell_at), sl__law_cell_at⟩) (c__law_cell_at : PySem.W.codeIn K cd__law_cell_at "_law_cell_at" = true) (k__law_cell_at : PySem.W.keepIn K (.ref f__law_cell_at) = true)
    (a__law_trim : PySem.W.nsIn K mainGlobals "_law_trim" = some (some (.ref f__law_trim))) (l__law_trim : K.lookup f__law_trim = some ⟨oc__law_trim, od__law_trim, .func (PySem.W.fnOf "_law_trim" "_law_trim" (defArgs s__law_trim) (defBody s__law_trim) (defScope s__law_trim) .none kV__law_trim dc__law_trim pm__law_trim an__law_trim cd__law_trim ct__law_trim), sl__law_trim⟩) (c__law_trim : PySem.W.codeIn K cd__law_trim "_law_trim" = true) (k__law_trim : PySem.W.keepIn K (.ref f__law_trim) = true)
    (a__law_same : PySem.W.nsIn K mainGlobals "_law_same" = some (some (.ref f__law_same))) (l__law_same : K.lookup f__law_same = some ⟨oc__law_same, od__law_same, .func (PySem.W.fnOf "_law_same" "_law_same" (defArgs s__law_same) (defBody s__law_same) (defScope s__law_same) .none kV__law_same dc__law_same pm__law_same an__law_same cd__law_same ct__law_same), sl__law_same⟩) (c__law_same : PySem.W.codeIn K cd__law_same "_law_same" = true) (k__law_same : PySem.W.keepIn K (.ref f__law_same) = true)
    (a__law_number : PySem.W.nsIn K mainGlobals "_law_number" = some (some (.ref f__law_number))) (l__law_number : K.lookup f__law_number = some ⟨oc__law_number, od__law_number, .func (PySem.W.fnOf "_law_number" "_law_number" (defArgs s__law_number) (defBody s__law_number) (defScope s__law_number) .none kV__law_number dc__law_number pm__law_number an__law_number cd__law_number ct__law_number), sl__law_number⟩) (c__law_number : PySem.W.codeIn K cd__law_number "_law_number" = true) (k__law_number : PySem.W.keepIn K (.ref f__law_number) = true)
    (a__law_drawn : PySem.W.nsIn K mainGlobals "_law_drawn" = some (some (.ref f__law_drawn))) (l__law_drawn : K.lookup f__law_drawn = some ⟨oc__law_drawn, od__law_drawn, .func (PySem.W.fnOf "_law_drawn" "_law_drawn" (defArgs s__law_drawn) (defBody s__law_drawn) (defScope s__law_drawn) .none kV__law_drawn dc__law_drawn pm__law_drawn an__law_drawn cd__law_drawn ct__law_drawn), sl__law_drawn⟩) (c__law_drawn : PySem.W.codeIn K cd__law_drawn "_law_drawn" = true) (k__law_drawn : PySem.W.keepIn K (.ref f__law_drawn) = true)
    (a__law_written : PySem.W.nsIn K mainGlobals "_law_written" = some (some (.ref f__law_written))) (l__law_written : K.lookup f__law_written = some ⟨oc__law_written, od__law_written, .func (PySem.W.fnOf "_law_written" "_law_written" (defArgs s__law_written) (defBody s__law_written) (defScope s__law_written) .none kV__law_written dc__law_written pm__law_written an__law_written cd__law_written ct__law_written), sl__law_written⟩) (c__law_written : PySem.W.codeIn K cd__law_written "_law_written" = true) (k__law_written : PySem.W.keepIn K (.ref f__law_written) = true)
    (a_law : PySem.W.nsIn K mainGlobals "law" = some (some (.ref f_law))) (l_law : K.lookup f_law = some ⟨oc_law, od_law, .func (PySem.W.fnOf "law" "law" (defArgs s_law) (defBody s_law) (defScope s_law) .none kV_law dc_law pm_law an_law cd_law ct_law), sl_law⟩) (c_law : PySem.W.codeIn K cd_law "law" = true) (k_law : PySem.W.keepIn K (.ref f_law) = true)
    {A_PolyError : Addr} (g_PolyError : PySem.W.nsIn K mainGlobals "PolyError" = some (some (.ref A_PolyError))) (x_PolyError : PySem.W.excIn K A_PolyError veT "ValueError.__new__" = true) (k_PolyError : PySem.W.keepIn K (.ref A_PolyError) = true) (b_PolyError : PySem.W.subIn K (.ref A_PolyError) (.type "BaseException") = some true) (t_PolyError : PySem.W.typeIn K (.ref A_PolyError) = some (.type "type")) (h_PolyError : PySem.W.hasDictIn K A_PolyError = true)
    (ig_PolyError : PySem.W.findIn K (.ref A_PolyError) "__getattribute__" = some (some (.builtin "BaseException.__getattribute__"))) (ik_PolyError : PySem.W.findIn K (.ref A_PolyError) "__getattr__" = some none) (ia_PolyError : PySem.W.findIn K (.ref A_PolyError) "__class__" = some (some (.builtin "object.__class__"))) (in_PolyError : PySem.W.specialIn K (.builtin "object.__class__") "__get__" = some (some (.builtin "getset_descriptor.__get__"))) (it_PolyError : PySem.W.takesIn K (.builtin "object.__class__") = some true) (im_PolyError : PySem.W.mroIn K A_PolyError (.type "object") = some true) (v_PolyError : PySem.W.subIn K (.ref A_PolyError) (.type "ValueError") = some true)
    {A_NotWritten : Addr} (g_NotWritten : PySem.W.nsIn K mainGlobals "NotWritten" = some (some (.ref A_NotWritten))) (x_NotWritten : PySem.W.excIn K A_NotWritten veT "ValueError.__new__" = true) (k_NotWritten : PySem.W.keepIn K (.ref A_NotWritten) = true) (b_NotWritten : PySem.W.subIn K (.ref A_NotWritten) (.type "BaseException") = some true) (t_NotWritten : PySem.W.typeIn K (.ref A_NotWritten) = some (.type "type")) (h_NotWritten : PySem.W.hasDictIn K A_NotWritten = true)
    (ig_NotWritten : PySem.W.findIn K (.ref A_NotWritten) "__getattribute__" = some (some (.builtin "BaseException.__getattribute__"))) (ik_NotWritten : PySem.W.findIn K (.ref A_NotWritten) "__getattr__" = some none) (ia_NotWritten : PySem.W.findIn K (.ref A_NotWritten) "__class__" = some (some (.builtin "object.__class__"))) (in_NotWritten : PySem.W.specialIn K (.builtin "object.__class__") "__get__" = some (some (.builtin "getset_descriptor.__get__"))) (it_NotWritten : PySem.W.takesIn K (.builtin "object.__class__") = some true) (im_NotWritten : PySem.W.mroIn K A_NotWritten (.type "object") = some true) (v_NotWritten : PySem.W.subIn K (.ref A_NotWritten) (.type "ValueError") = some true)
    {tk_FIGURES : Tok} (g_FIGURES : PySem.W.nsIn K mainGlobals "FIGURES" = some (some (.str "0123456789" tk_FIGURES)))
    (z_ValueError : PySem.W.nsIn K mainGlobals "ValueError" = some none)
    (z_abs : PySem.W.nsIn K mainGlobals "abs" = some none)
    (z_bool : PySem.W.nsIn K mainGlobals "bool" = some none)
    (z_int : PySem.W.nsIn K mainGlobals "int" = some none)
    (z_isinstance : PySem.W.nsIn K mainGlobals "isinstance" = some none)
    (z_len : PySem.W.nsIn K mainGlobals "len" = some none)
    (z_list : PySem.W.nsIn K mainGlobals "list" = some none)
    (z_range : PySem.W.nsIn K mainGlobals "range" = some none)
    (z_str : PySem.W.nsIn K mainGlobals "str" = some none)
    :
    ∃ fd : FuncData, (∀ (s : Shared) (v : Value), BindsTo s fd ⟨[v], []⟩ [("_law_script", v)]) ∧ ∀ base : Heap, K.In base → base.Ns mainGlobals mg →  FnOk l.prog w K mg base CX0 5 fa fd ["_law_script"] (sp_law K) := by
  have e := hfa.symm.trans (PySem.W.mg_of X G a_law)
  cases e
  have F_trimmed := fun_mk (st := s_trimmed) l_trimmed c_trimmed k_trimmed
  have b_trimmed := F_trimmed.binds (ps := ["row"]) fun _ _ _ _ _ _ us hl => match us, hl with | [_], _ => rfl
  have F_letters := fun_mk (st := s_letters) l_letters c_letters k_letters
  have b_letters := F_letters.binds (ps := ["power"]) fun _ _ _ _ _ _ us hl => match us, hl with | [_], _ => rfl
  have F_term := fun_mk (st := s_term) l_term c_term k_term
  have b_term := F_term.binds (ps := ["number", "power"]) fun _ _ _ _ _ _ us hl => match us, hl with | [_, _], _ => rfl
  have F_shown := fun_mk (st := s_shown) l_shown c_shown k_shown
  have b_shown := F_shown.binds (ps := ["row"]) fun _ _ _ _ _ _ us hl => match us, hl with | [_], _ => rfl
  have F_whole_of := fun_mk (st := s_whole_of) l_whole_of c_whole_of k_whole_of
  have b_whole_of := F_whole_of.binds (ps := ["figures"]) fun _ _ _ _ _ _ us hl => match us, hl with | [_], _ => rfl
  have F_power_of := fun_mk (st := s_power_of) l_power_of c_power_of k_power_of
  have b_power_of := F_power_of.binds (ps := ["line"]) fun _ _ _ _ _ _ us hl => match us, hl with | [_], _ => rfl
  have F_read_term := fun_mk (st := s_read_term) l_read_term c_read_term k_read_term
  have b_read_term := F_read_term.binds (ps := ["line"]) fun _ _ _ _ _ _ us hl => match us, hl with | [_], _ => rfl
  have F_read := fun_mk (st := s_read) l_read c_read k_read
  have b_read := F_read.binds (ps := ["line"]) fun _ _ _ _ _ _ us hl => match us, hl with | [_], _ => rfl
  have F__law_whole := fun_mk (st := s__law_whole) l__law_whole c__law_whole k__law_whole
  have b__law_whole := F__law_whole.binds (ps := ["_law_found"]) fun _ _ _ _ _ _ us hl => match us, hl with | [_], _ => rfl
  have F__law_cell_at := fun_mk (st := s__law_cell_at) l__law_cell_at c__law_cell_at k__law_cell_at
  have b__law_cell_at := F__law_cell_at.binds (ps := ["_law_script", "_law_k"]) fun _ _ _ _ _ _ us hl => match us, hl with | [_, _], _ => rfl
  have F__law_trim := fun_mk (st := s__law_trim) l__law_trim c__law_trim k__law_trim
  have b__law_trim := F__law_trim.binds (ps := ["_law_row"]) fun _ _ _ _ _ _ us hl => match us, hl with | [_], _ => rfl
  have F__law_same := fun_mk (st := s__law_same) l__law_same c__law_same k__law_same
  have b__law_same := F__law_same.binds (ps := ["_law_found", "_law_due"]) fun _ _ _ _ _ _ us hl => match us, hl with | [_, _], _ => rfl
  have F__law_number := fun_mk (st := s__law_number) l__law_number c__law_number k__law_number
  have b__law_number := F__law_number.binds (ps := ["_law_cell"]) fun _ _ _ _ _ _ us hl => match us, hl with | [_], _ => rfl
  have F__law_drawn := fun_mk (st := s__law_drawn) l__law_drawn c__law_drawn k__law_drawn
  have b__law_drawn := F__law_drawn.binds (ps := ["_law_script", "_law_place", "_law_size", "_law_many"]) fun _ _ _ _ _ _ us hl => match us, hl with | [_, _, _, _], _ => rfl
  have F__law_written := fun_mk (st := s__law_written) l__law_written c__law_written k__law_written
  have b__law_written := F__law_written.binds (ps := ["_law_row"]) fun _ _ _ _ _ _ us hl => match us, hl with | [_], _ => rfl
  have F_law := fun_mk (st := s_law) l_law c_law k_law
  have b_law := F_law.binds (ps := ["_law_script"]) fun _ _ _ _ _ _ us hl => match us, hl with | [_], _ => rfl
  let T : Txt K mg := {
    a_trimmed := _, d_trimmed := _, F_trimmed := F_trimmed, m_trimmed := PySem.W.mg_of X G a_trimmed, b_trimmed := b_trimmed,
    a_letters := _, d_letters := _, F_letters := F_letters, m_letters := PySem.W.mg_of X G a_letters, b_letters := b_letters,
    a_term := _, d_term := _, F_term := F_term, m_term := PySem.W.mg_of X G a_term, b_term := b_term,
    a_shown := _, d_shown := _, F_shown := F_shown, m_shown := PySem.W.mg_of X G a_shown, b_shown := b_shown,
    a_whole_of := _, d_whole_of := _, F_whole_of := F_whole_of, m_whole_of := PySem.W.mg_of X G a_whole_of, b_whole_of := b_whole_of,
    a_power_of := _, d_power_of := _, F_power_of := F_power_of, m_power_of := PySem.W.mg_of X G a_power_of, b_power_of := b_power_of,
    a_read_term := _, d_read_term := _, F_read_term := F_read_term, m_read_term := PySem.W.mg_of X G a_read_term, b_read_term := b_read_term,
    a_read := _, d_read := _, F_read := F_read, m_read := PySem.W.mg_of X G a_read, b_read := b_read,
    a__law_whole := _, d__law_whole := _, F__law_whole := F__law_whole, m__law_whole := PySem.W.mg_of X G a__law_whole, b__law_whole := b__law_whole,
    a__law_cell_at := _, d__law_cell_at := _, F__law_cell_at := F__law_cell_at, m__law_cell_at := PySem.W.mg_of X G a__law_cell_at, b__law_cell_at := b__law_cell_at,
    a__law_trim := _, d__law_trim := _, F__law_trim := F__law_trim, m__law_trim := PySem.W.mg_of X G a__law_trim, b__law_trim := b__law_trim,
    a__law_same := _, d__law_same := _, F__law_same := F__law_same, m__law_same := PySem.W.mg_of X G a__law_same, b__law_same := b__law_same,
    a__law_number := _, d__law_number := _, F__law_number := F__law_number, m__law_number := PySem.W.mg_of X G a__law_number, b__law_number := b__law_number,
    a__law_drawn := _, d__law_drawn := _, F__law_drawn := F__law_drawn, m__law_drawn := PySem.W.mg_of X G a__law_drawn, b__law_drawn := b__law_drawn,
    a__law_written := _, d__law_written := _, F__law_written := F__law_written, m__law_written := PySem.W.mg_of X G a__law_written, b__law_written := b__law_written,
    a_law := _, d_law := _, F_law := F_law, m_law := PySem.W.mg_of X G a_law, b_law := b_law,
    A_PolyError := A_PolyError, e_PolyError := ⟨PySem.W.mg_of X G g_PolyError, x_PolyError, k_PolyError, b_PolyError, t_PolyError, h_PolyError, ⟨ig_PolyError, ik_PolyError, b_PolyError, h_PolyError, ia_PolyError, in_PolyError, it_PolyError, im_PolyError⟩, kit_ve v_PolyError⟩,
    A_NotWritten := A_NotWritten, e_NotWritten := ⟨PySem.W.mg_of X G g_NotWritten, x_NotWritten, k_NotWritten, b_NotWritten, t_NotWritten, h_NotWritten, ⟨ig_NotWritten, ik_NotWritten, b_NotWritten, h_NotWritten, ia_NotWritten, in_NotWritten, it_NotWritten, im_NotWritten⟩, kit_ve v_NotWritten⟩,
    g_FIGURES := ⟨_, PySem.W.mg_of X G g_FIGURES⟩,
    z_ValueError := PySem.W.mg_none_of X G z_ValueError, z_abs := PySem.W.mg_none_of X G z_abs, z_bool := PySem.W.mg_none_of X G z_bool, z_int := PySem.W.mg_none_of X G z_int, z_isinstance := PySem.W.mg_none_of X G z_isinstance, z_len := PySem.W.mg_none_of X G z_len, z_list := PySem.W.mg_none_of X G z_list, z_range := PySem.W.mg_none_of X G z_range, z_str := PySem.W.mg_none_of X G z_str }
  exact ⟨_, fun s v => .of_eq rfl, fun base _ _ => ok_law T⟩
end Pa
open PySem PySem.W PyProof.Rows
set_option maxHeartbeats 0 in
theorem PySem.Challenge.cw_polyarith_k10_written_holds : PySem.Challenge.rw_polyarith_k10_written.Holds := by
  w_on; o_law; k_head; (case hw => w_witness2)
  k_fill
  refine L2.walk_of (l := PySem.Challenge.rw_polyarith_k10_written) (n := 63) (k := 5) (x := "_law_script") (CX := fun _ => L2.CX0) (sp := fun w => Pa.sp_law _) rfl (by decide) rfl ⟨rfl, by decide, by decide⟩ (fun w h Y => PySem.W.kIn_of Y) ?F (fun _ _ a ns hl _ hS => ⟨a, ns, rfl, hS, hl, fun _ => rfl⟩) (fun _ _ _ _ _ h => h)
  case F =>
    intro w mg fa h KX G hmg
    refine' Pa.all_mk KX G hmg ?a_trimmed ?l_trimmed ?c_trimmed ?k_trimmed ?a_letters ?l_letters ?c_letters ?k_letters ?a_term ?l_term ?c_term ?k_term ?a_shown ?l_shown ?c_shown ?k_shown ?a_whole_of ?l_whole_of ?c_whole_of ?k_whole_of ?a_power_of ?l_power_of ?c_power_of ?k_power_of ?a_read_term ?l_read_term ?c_read_term ?k_read_term ?a_read ?l_read ?c_read ?k_read ?a__law_whole ?l__law_whole ?c__law_whole ?k__law_whole ?a__law_cell_at ?l__law_cell_at ?c__law_cell_at ?k__law_cell_at ?a__law_trim ?l__law_trim ?c__law_trim ?k__law_trim ?a__law_same ?l__law_same ?c__law_same ?k__law_same ?a__law_number ?l__law_number ?c__law_number ?k__law_number ?a__law_drawn ?l__law_drawn ?c__law_drawn ?k__law_drawn ?a__law_written ?l__law_written ?c__law_written ?k__law_written ?a_law ?l_law ?c_law ?k_law ?g_PolyError ?x_PolyError ?k_PolyError ?b_PolyError ?t_PolyError ?h_PolyError ?ig_PolyError ?ik_PolyError ?ia_PolyError ?in_PolyError ?it_PolyError ?im_PolyError ?v_PolyError ?g_NotWritten ?x_NotWritten ?k_NotWritten ?b_NotWritten ?t_NotWritten ?h_NotWritten ?ig_NotWritten ?ik_NotWritten ?ia_NotWritten ?in_NotWritten ?it_NotWritten ?im_NotWritten ?v_NotWritten ?g_FIGURES ?z_ValueError ?z_abs ?z_bool ?z_int ?z_isinstance ?z_len ?z_list ?z_range ?z_str
    (case a_trimmed => k_is)
    (case l_trimmed => k_is)
    (case c_trimmed => k_is)
    (case k_trimmed => k_is)
    (case a_letters => k_is)
    (case l_letters => k_is)
    (case c_letters => k_is)
    (case k_letters => k_is)
    (case a_term => k_is)
    (case l_term => k_is)
    (case c_term => k_is)
    (case k_term => k_is)
    (case a_shown => k_is)
    (case l_shown => k_is)
    (case c_shown => k_is)
    (case k_shown => k_is)
    (case a_whole_of => k_is)
    (case l_whole_of => k_is)
    (case c_whole_of => k_is)
    (case k_whole_of => k_is)
    (case a_power_of => k_is)
    (case l_power_of => k_is)
    (case c_power_of => k_is)
    (case k_power_of => k_is)
    (case a_read_term => k_is)
    (case l_read_term => k_is)
    (case c_read_term => k_is)
    (case k_read_term => k_is)
    (case a_read => k_is)
    (case l_read => k_is)
    (case c_read => k_is)
    (case k_read => k_is)
    (case a__law_whole => k_is)
    (case l__law_whole => k_is)
    (case c__law_whole => k_is)
    (case k__law_whole => k_is)
    (case a__law_cell_at => k_is)
    (case l__law_cell_at => k_is)
    (case c__law_cell_at => k_is)
    (case k__law_cell_at => k_is)
    (case a__law_trim => k_is)
    (case l__law_trim => k_is)
    (case c__law_trim => k_is)
    (case k__law_trim => k_is)
    (case a__law_same => k_is)
    (case l__law_same => k_is)
    (case c__law_same => k_is)
    (case k__law_same => k_is)
    (case a__law_number => k_is)
    (case l__law_number => k_is)
    (case c__law_number => k_is)
    (case k__law_number => k_is)
    (case a__law_drawn => k_is)
    (case l__law_drawn => k_is)
    (case c__law_drawn => k_is)
    (case k__law_drawn => k_is)
    (case a__law_written => k_is)
    (case l__law_written => k_is)
    (case c__law_written => k_is)
    (case k__law_written => k_is)
    (case a_law => k_is)
    (case l_law => k_is)
    (case c_law => k_is)
    (case k_law => k_is)
    (case g_PolyError => k_is)
    (case x_PolyError => k_exc)
    (case k_PolyError => k_is)
    (case b_PolyError => k_is)
    (case t_PolyError => k_is)
    (case h_PolyError => k_is)
    (case ig_PolyError => k_is)
    (case ik_PolyError => k_is)
    (case ia_PolyError => k_is)
    (case in_PolyError => k_is)
    (case it_PolyError => k_is)
    (case im_PolyError => k_is)
    (case v_PolyError => k_is)
    (case g_NotWritten => k_is)
    (case x_NotWritten => k_exc)
    (case k_NotWritten => k_is)
    (case b_NotWritten => k_is)
    (case t_NotWritten => k_is)
    (case h_NotWritten => k_is)
    (case ig_NotWritten => k_is)
    (case ik_NotWritten => k_is)
    (case ia_NotWritten => k_is)
    (case in_NotWritten => k_is)
    (case it_NotWritten => k_is)
    (case im_NotWritten => k_is)
    (case v_NotWritten => k_is)
    (case g_FIGURES => k_is)
    (case z_ValueError => k_is)
    (case z_abs => k_is)
    (case z_bool => k_is)
    (case z_int => k_is)
    (case z_isinstance => k_is)
    (case z_len => k_is)
    (case z_list => k_is)
    (case z_range => k_is)
    (case z_str => k_is)
