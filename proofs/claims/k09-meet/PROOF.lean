import PyProof.Rows.All
import Wide.All
import OpenK.AllK
import Wide.FinOn
import HandS.ForMost
import HandS.Exc
import HandS.TryOnly
import HandS.ExcOwn
import HandS.WordsExc
import HandS.TryMany
import HandS.Wide
import HandS.Rev
import HandS.IsInst
import HandS.ExcIs
import HandS.Deep
import PySem.Challenge.RW_polyarith_k09_meet
set_option Elab.async false
set_option linter.all false
set_option maxRecDepth 100000
set_option maxHeartbeats 4000000
set_option exponentiation.threshold 10000
namespace Pa
open PySem PySem.Spec PyProof.Rows L2
abbrev St := L2.St

/-! ### owned objects over a heap -/
abbrev Fs := List (Addr × HO)
def Kn (H0 : Hp) : Fs → Hp → Prop
  | [], H => Same H0 H
  | x :: fs, H => H x.1 = some x.2 ∧ ∃ H1, Same H1 H ∧ H1 x.1 = none ∧ Kn H0 fs H1
theorem Kn.same {H0 : Hp} : ∀ {fs : Fs} {H : Hp}, Kn H0 fs H → Same H0 H
  | [], _, h => h
  | _ :: _, _, ⟨_, _, s, _, k⟩ => (Kn.same k).trans s
theorem Kn.ext {H0 : Hp} : ∀ {fs : Fs} {H H' : Hp}, Kn H0 fs H → Same H H' → Kn H0 fs H'
  | [], _, _, h, s => Same.trans h s
  | _ :: _, _, _, ⟨e, H1, s1, n, k⟩, s => ⟨s _ _ e, H1, s1.trans s, n, k⟩
theorem same_upd {H : Hp} {p : Addr} {o : HO} (h : H p = none) : Same H (upd H p o) := fun b x e => by
  rw [upd_ne (ne_of_none e h)]
  exact e
theorem Kn.new {H0 H : Hp} {fs : Fs} {p : Addr} {o : HO} (k : Kn H0 fs H) (h : H p = none) : Kn H0 ((p, o) :: fs) (upd H p o) :=
  ⟨upd_same, H, same_upd h, h, k⟩
theorem Kn.get {H0 : Hp} : ∀ {fs : Fs} {H : Hp} {p : Addr} {o : HO}, Kn H0 fs H → (p, o) ∈ fs → H p = some o
  | _ :: _, _, _, _, ⟨e, _⟩, .head _ => e
  | _ :: _, _, _, _, ⟨_, _, s, _, k⟩, .tail _ m => s _ _ (Kn.get k m)
theorem Kn.fresh {H0 H : Hp} {fs : Fs} {p : Addr} (k : Kn H0 fs H) (h : H p = none) : H0 p = none := k.same.free h
theorem Kn.out {H0 : Hp} : ∀ {fs : Fs} {H : Hp} {p : Addr} {o : HO}, Kn H0 fs H → (p, o) ∈ fs → H0 p = none
  | _ :: _, _, _, _, ⟨_, _, _, n, k⟩, .head _ => k.same.free n
  | _ :: _, _, _, _, ⟨_, _, _, _, k⟩, .tail _ m => Kn.out k m
theorem Kn.put {H0 : Hp} : ∀ {fs : Fs} {H : Hp} {i : Nat} {p : Addr} {o o' : HO}, Kn H0 fs H → fs[i]? = some (p, o) → Kn H0 (fs.set i (p, o')) (upd H p o')
  | [], _, _, _, _, _, _, h => by simp at h
  | x :: fs, H, 0, p, o, o', ⟨e, H1, s, n, k⟩, h => by
    have ex : x = (p, o) := Option.some.inj h
    subst ex
    exact ⟨upd_same, H1, fun b u q => by rw [upd_ne (ne_of_none q n)]; exact s _ _ q, n, k⟩
  | x :: fs, H, i + 1, p, o, o', ⟨e, H1, s, n, k⟩, h => by
    have h' : fs[i]? = some (p, o) := by simpa using h
    have hp : H1 p = some o := k.get (List.mem_of_getElem? h')
    have ne : x.1 ≠ p := fun z => by rw [z, hp] at n; cases n
    refine ⟨by rw [upd_ne ne]; exact e, upd H1 p o', fun b u q => ?_, by rw [upd_ne ne]; exact n, Kn.put k h'⟩
    by_cases hb : b = p
    · subst hb; rw [upd_same] at q ⊢; exact q
    · rw [upd_ne hb] at q ⊢; exact s _ _ q
theorem Kn.app {H0 H : Hp} {fs : Fs} (k : Kn H0 fs H) : ∀ {fs' : Fs} {H' : Hp}, Kn H fs' H' → Kn H0 (fs' ++ fs) H'
  | [], _, k' => k.ext k'
  | _ :: _, _, ⟨e, H1, s, n, k'⟩ => ⟨e, H1, s, n, Kn.app k k'⟩
theorem Kn.drop {H0 H : Hp} {x : Addr × HO} {fs : Fs} (k : Kn H0 (x :: fs) H) : Kn H0 fs H := by
  obtain ⟨_, H1, s, _, k⟩ := k
  exact k.ext s
theorem Kn.sub {H0 : Hp} : ∀ {fs fs' : Fs} {H : Hp}, List.Sublist fs' fs → Kn H0 fs H → Kn H0 fs' H
  | _, _, _, .slnil, k => k
  | _, _, _, .cons _ s, k => Kn.sub s k.drop
  | _, _, _, .cons_cons _ s, ⟨e, H1, t, n, k⟩ => ⟨e, H1, t, n, Kn.sub s k⟩
/-- seen from a later heap -/
theorem Kn.ne {H0 : Hp} {x : Addr × HO} {fs : Fs} {H : Hp} {p : Addr} {o : HO} (k : Kn H0 (x :: fs) H) (m : (p, o) ∈ fs) : x.1 ≠ p := by
  obtain ⟨_, H1, _, n, k⟩ := k
  intro e
  rw [e, k.get m] at n
  cases n
theorem Kn.swap {H0 : Hp} {x y : Addr × HO} {fs : Fs} {H : Hp} (k : Kn H0 (x :: y :: fs) H) : Kn H0 (y :: x :: fs) H := by
  obtain ⟨ex, H1, s1, n1, ey, H2, s2, n2, k⟩ := k
  have ne : x.1 ≠ y.1 := fun z => by rw [z, ey] at n1; cases n1
  have hx2 : H2 x.1 = none := s2.free n1
  refine ⟨s1 _ _ ey, upd H2 x.1 x.2, fun b u q => ?_, ?_, upd_same, H2, same_upd hx2, hx2, k⟩
  · by_cases hb : b = x.1
    · subst hb; rw [upd_same] at q; cases q; exact ex
    · rw [upd_ne hb] at q; exact s1 _ _ (s2 _ _ q)
  · rw [upd_ne (Ne.symm ne)]; exact n2

/-! ### what may be read -/
def Rl (K : PySem.W.Frag) (H0 : Hp) (fs : Fs) (a : Addr) (xs : List V) : Prop := ∀ H, Kn H0 fs H → SqL K H a xs
def Rt (K : PySem.W.Frag) (H0 : Hp) (fs : Fs) (a : Addr) (xs : List V) : Prop := ∀ H, Kn H0 fs H → SqT K H a xs
/-- an exact object -/
def Rx (H0 : Hp) (fs : Fs) (a : Addr) (o : HO) : Prop := ∀ H, Kn H0 fs H → H a = some o
section
variable {K : PySem.W.Frag} {H0 : Hp} {fs fs' : Fs} {a : Addr} {xs : List V} {o : HO}
theorem Rx.own (m : (a, o) ∈ fs) : Rx H0 fs a o := fun _ k => k.get m
theorem Rx.arg (h : H0 a = some o) : Rx H0 fs a o := fun _ k => k.same _ _ h
theorem Rl.x (h : Rx H0 fs a (.lst xs)) : Rl K H0 fs a xs := fun H k => SqL.of (h H k)
theorem Rl.sq (h : SqL K H0 a xs) : Rl K H0 fs a xs := fun _ k => k.same.seq h
theorem Rt.x (h : Rx H0 fs a (.tup xs)) : Rt K H0 fs a xs := fun H k => SqT.of (h H k)
end

/-! ### zV -/
def zV (ns : List Int) : List V := ns.map V.int
theorem zV_length (ns : List Int) : (zV ns).length = ns.length := List.length_map _
theorem zV_get {ns : List Int} {i : Nat} {x : Int} (h : ns[i]? = some x) : (zV ns)[i]? = some (.int x) := by
  unfold zV
  rw [List.getElem?_map, h]; rfl
/-- the number at a place -/
def gat (ns : List Int) (i : Int) : Int := ns.getD i.toNat 0
theorem gat_nat (ns : List Int) (i : Nat) : gat ns (i : Int) = ns.getD i 0 := by unfold gat; simp
theorem atI_zV {ns : List Int} {i : Int} (h0 : 0 ≤ i) (h1 : i < (ns.length : Int)) : atI (zV ns) i = some (.int (gat ns i)) := by
  obtain ⟨k, rfl⟩ := Int.eq_ofNat_of_zero_le h0
  have hk : k < ns.length := by omega
  refine atI_nat (zV_get ?_)
  rw [gat_nat, List.getD_eq_getElem?_getD, List.getElem?_eq_getElem hk]; rfl
theorem ixN_nat {n j : Nat} (hj : j < n) : ixN n (j : Int) = some j := by
  unfold ixN
  rw [if_pos (by omega), if_pos (by omega)]
  simp
theorem ixN_int {n : Nat} {i : Int} (h0 : 0 ≤ i) (h1 : i < (n : Int)) : ixN n i = some i.toNat := by
  unfold ixN
  rw [if_pos h0, if_pos h1]
theorem zV_set (ns : List Int) (i : Nat) (x : Int) : (zV ns).set i (.int x) = zV (ns.set i x) := by
  unfold zV; rw [List.map_set]
theorem zV_app (ns ms : List Int) : zV ns ++ zV ms = zV (ns ++ ms) := by
  unfold zV; rw [List.map_append]
theorem atI_lastI {ns : List Int} (h : ns ≠ []) : atI (zV ns) (-1) = some (.int (ns.getLast h)) := by
  have e : zV ns = zV ns.dropLast ++ [.int (ns.getLast h)] := by
    have := zV_app ns.dropLast [ns.getLast h]
    rw [List.dropLast_concat_getLast] at this
    exact this.symm
  rw [e]; exact atI_last _ _
theorem sz_le {n : Nat} (h : n ≤ 1000000) : n ≤ sizeLine := Nat.le_trans h (by decide)
theorem sz_lt {n : Nat} (h : n < 1000000) : n < sizeLine := Nat.lt_of_lt_of_le h (by decide)
end Pa

namespace Pa
open PySem PySem.Spec PyProof.Rows L2

/-! ### readings over owned objects -/
abbrev CV := V → Fs → Prop
def W (te : TE) (σ : St) (H0 : Hp) (fs : Fs) (Φ : CV) : Prop := ∀ H, Kn H0 fs H → ∀ Q : VK, (∀ v fs' H', Kn H0 fs' H' → Φ v fs' → Q v H') → te σ H Q
def WT (tt : TT) (σ : St) (H0 : Hp) (fs : Fs) (Φ : Bool → Fs → Prop) : Prop := ∀ H, Kn H0 fs H → ∀ Q : Bool → Hp → Prop, (∀ v fs' H', Kn H0 fs' H' → Φ v fs' → Q v H') → tt σ H Q
def WA (ta : TA) (σ : St) (H0 : Hp) (fs : Fs) (Φ : List V → Fs → Prop) : Prop := ∀ H, Kn H0 fs H → ∀ Q : List V → Hp → Prop, (∀ v fs' H', Kn H0 fs' H' → Φ v fs' → Q v H') → ta σ H Q
def WO (tn : TO) (σ : St) (H0 : Hp) (fs : Fs) (Φ : Option Int → Fs → Prop) : Prop := ∀ H, Kn H0 fs H → ∀ Q : Option Int → Hp → Prop, (∀ v fs' H', Kn H0 fs' H' → Φ v fs' → Q v H') → tn σ H Q
/-- an operation on two values, a call on values -/
def RW (r : R2) (x y : V) (H0 : Hp) (fs : Fs) (Φ : CV) : Prop := ∀ H, Kn H0 fs H → ∀ Q : VK, (∀ v fs' H', Kn H0 fs' H' → Φ v fs' → Q v H') → r x y H Q
def RU (r : V → Hp → VK → Prop) (x : V) (H0 : Hp) (fs : Fs) (Φ : CV) : Prop := ∀ H, Kn H0 fs H → ∀ Q : VK, (∀ v fs' H', Kn H0 fs' H' → Φ v fs' → Q v H') → r x H Q
def RC (r : List V → Hp → VK → Prop) (vs : List V) (H0 : Hp) (fs : Fs) (Φ : CV) : Prop := ∀ H, Kn H0 fs H → ∀ Q : VK, (∀ v fs' H', Kn H0 fs' H' → Φ v fs' → Q v H') → r vs H Q
def RM (r : V → List V → Hp → VK → Prop) (x : V) (vs : List V) (H0 : Hp) (fs : Fs) (Φ : CV) : Prop := ∀ H, Kn H0 fs H → ∀ Q : VK, (∀ v fs' H', Kn H0 fs' H' → Φ v fs' → Q v H') → r x vs H Q
def RS (r : V → Option Int → Option Int → Hp → VK → Prop) (x : V) (lo hi : Option Int) (H0 : Hp) (fs : Fs) (Φ : CV) : Prop := ∀ H, Kn H0 fs H → ∀ Q : VK, (∀ v fs' H', Kn H0 fs' H' → Φ v fs' → Q v H') → r x lo hi H Q
/-- a call's promise -/
def WC (sp : Sp) (vs : List V) (H0 : Hp) (fs : Fs) (Φ : CV) : Prop := ∀ H, Kn H0 fs H → ∀ (Q : VK) (E : XK), (∀ v fs' H', Kn H0 fs' H' → Φ v fs' → Q v H') → sp vs H Q E
/-- statements: what must hold behind -/
def N (e : St → Hp → Prop) (σ : St) (H0 : Hp) (fs : Fs) : Prop := ∀ H, Kn H0 fs H → e σ H
/-- a value handed back -/
def NR (Q : VK) (v : V) (H0 : Hp) (fs : Fs) : Prop := ∀ H, Kn H0 fs H → Q v H

section
variable {σ : St} {H0 : Hp} {fs : Fs} {Φ : CV} {ta tb tc te : TE} {t u : TT} {i : Nat} {v x y : V} {r r' : R2} {K : PySem.W.Frag} {tr : TA} {ΦT : Bool → Fs → Prop} {ΦA : List V → Fs → Prop}

theorem W.var (h : σ[i]? = some (some v)) (q : Φ v fs) : W (tVar i) σ H0 fs Φ := fun H k _ c => ⟨v, h, c v fs H k q⟩
theorem W.c (q : Φ v fs) : W (tC v) σ H0 fs Φ := fun H k _ c => c v fs H k q
theorem W.op (h : W ta σ H0 fs fun x f1 => W tb σ H0 f1 fun y f2 => RW r x y H0 f2 Φ) : W (tOp r ta tb) σ H0 fs Φ := fun H k Q c =>
  h H k _ fun _ _ H1 k1 h1 => h1 H1 k1 _ fun _ _ H2 k2 h2 => h2 H2 k2 Q c
theorem W.un {r : V → Hp → VK → Prop} (h : W ta σ H0 fs fun x f1 => RU r x H0 f1 Φ) : W (tUn r ta) σ H0 fs Φ := fun H k Q c =>
  h H k _ fun _ _ H1 k1 h1 => h1 H1 k1 Q c
theorem RW.i0 {g : Int → Int → V} {i j : Int} (q : Φ (g i j) fs) : RW (rI0 g) (.int i) (.int j) H0 fs Φ := fun H k _ c => ⟨i, j, rfl, rfl, c _ fs H k q⟩
theorem RW.i1 {C : Int → Int → Prop} {g : Int → Int → V} {i j : Int} (hc : C i j) (q : Φ (g i j) fs) : RW (rI C g) (.int i) (.int j) H0 fs Φ := fun H k _ c => ⟨i, j, rfl, rfl, hc, c _ fs H k q⟩
theorem RU.int {g : Int → V} {i : Int} (q : Φ (g i) fs) : RU (rU g) (.int i) H0 fs Φ := fun H k _ c => ⟨i, rfl, c _ fs H k q⟩
theorem RW.eqI {i j : Int} (q : Φ (.bl (decide (i = j))) fs) : RW rEq (.int i) (.int j) H0 fs Φ := fun H k Q c => ⟨rfl, by
  have e : decide (V.int i = V.int j) = decide (i = j) := by rw [dec_int, Bool.beq_eq_decide_eq]
  rw [e]; exact c _ fs H k q⟩
theorem RW.neI {i j : Int} (q : Φ (.bl (!decide (i = j))) fs) : RW rNe (.int i) (.int j) H0 fs Φ := fun H k Q c => ⟨rfl, by
  have e : decide (V.int i = V.int j) = decide (i = j) := by rw [dec_int, Bool.beq_eq_decide_eq]
  rw [e]; exact c _ fs H k q⟩
theorem RW.eqS {i j : Str} (q : Φ (.bl (decide (i = j))) fs) : RW rEq (.str i) (.str j) H0 fs Φ := fun H k Q c => ⟨rfl, by
  have e : decide (V.str i = V.str j) = decide (i = j) := by rw [dec_str, Bool.beq_eq_decide_eq]
  rw [e]; exact c _ fs H k q⟩
theorem RW.neS {i j : Str} (q : Φ (.bl (!decide (i = j))) fs) : RW rNe (.str i) (.str j) H0 fs Φ := fun H k Q c => ⟨rfl, by
  have e : decide (V.str i = V.str j) = decide (i = j) := by rw [dec_str, Bool.beq_eq_decide_eq]
  rw [e]; exact c _ fs H k q⟩

/-! ### arguments, displays -/
theorem WA.nil (q : ΦA [] fs) : WA tNil σ H0 fs ΦA := fun H k _ c => c [] fs H k q
theorem WA.cons (h : W ta σ H0 fs fun x f1 => WA tr σ H0 f1 fun xs f2 => ΦA (x :: xs) f2) : WA (tCons ta tr) σ H0 fs ΦA := fun H k Q c =>
  h H k _ fun _ _ H1 k1 h1 => h1 H1 k1 _ fun _ _ H2 k2 h2 => c _ _ H2 k2 h2
theorem W.lst (h : WA tr σ H0 fs fun vs f1 => vs.length ≤ 1000000 ∧ ∀ p, Φ (.ref p) ((p, .lst vs) :: f1)) : W (tLst tr) σ H0 fs Φ := fun H k Q c =>
  h H k _ fun _ _ H1 k1 h1 => ⟨sz_le h1.1, fun p hp => c _ _ _ (k1.new hp) (h1.2 p)⟩
theorem W.tup (h : WA tr σ H0 fs fun vs f1 => vs.length ≤ 1000000 ∧ ∀ p, Φ (.ref p) ((p, .tup vs) :: f1)) : W (tTup tr) σ H0 fs Φ := fun H k Q c =>
  h H k _ fun _ _ H1 k1 h1 => ⟨sz_le h1.1, fun p hp => c _ _ _ (k1.new hp) (h1.2 p)⟩
theorem W.cb {r : List V → Hp → VK → Prop} (h : WA tr σ H0 fs fun vs f1 => RC r vs H0 f1 Φ) : W (tCB r tr) σ H0 fs Φ := fun H k Q c =>
  h H k _ fun _ _ H1 k1 h1 => h1 H1 k1 Q c
theorem W.call {sp : Sp} {E : XK} (h : WA tr σ H0 fs fun vs f1 => WC sp vs H0 f1 Φ) : W (tCall sp [] E tr) σ H0 fs Φ := fun H k Q c =>
  h H k _ fun vs _ H1 k1 h1 => by rw [List.append_nil]; exact h1 H1 k1 Q E c

/-! ### built-ins -/
def rLen (K : PySem.W.Frag) : List V → Hp → VK → Prop := fun xs H Q => ∃ p ys, xs = [.ref p] ∧ (SqL K H p ys ∨ SqT K H p ys) ∧ Q (.int ys.length) H
def rLenS : List V → Hp → VK → Prop := fun xs H Q => ∃ z, xs = [.str z] ∧ z.length ≤ sizeLine ∧ Q (.int z.length) H
def rAbs : List V → Hp → VK → Prop := fun xs H Q => ∃ i, xs = [.int i] ∧ Q (.int (if i < 0 then -i else i)) H
def rMax2 : List V → Hp → VK → Prop := fun xs H Q => ∃ i j, xs = [.int i, .int j] ∧ Q (.int (if j > i then j else i)) H
def rMin2 : List V → Hp → VK → Prop := fun xs H Q => ∃ i j, xs = [.int i, .int j] ∧ Q (.int (if j < i then j else i)) H
def rListOf (K : PySem.W.Frag) : List V → Hp → VK → Prop := fun xs H Q => ∃ p ys, xs = [.ref p] ∧ (SqL K H p ys ∨ SqT K H p ys) ∧ ∀ l, H l = none → Q (.ref l) (upd H l (.lst ys))
def rTupOf (K : PySem.W.Frag) : List V → Hp → VK → Prop := fun xs H Q => ∃ p ys, xs = [.ref p] ∧ ((SqL K H p ys ∧ ∀ l, H l = none → Q (.ref l) (upd H l (.tup ys))) ∨ (SqT K H p ys ∧ Q (.ref p) H))
section
variable {X : Cx}
theorem cLen : CallR X (.builtin "len") (rLen X.K) := call_len_seq
theorem cLenS : CallR X (.builtin "len") rLenS := call_len_str
theorem cAbs : CallR X (.builtin "abs") rAbs := call_abs
theorem cMax2 (hc : X.calm = true) : CallR X (.builtin "max") rMax2 := call_max2 hc
theorem cMin2 (hc : X.calm = true) : CallR X (.builtin "min") rMin2 := call_min2 hc
theorem cListOf : CallR X (.type "list") (rListOf X.K) := call_list_of
theorem cTupOf : CallR X (.type "tuple") (rTupOf X.K) := call_tuple_of
end
theorem RC.len {p : Addr} {xs : List V} (h : Rl K H0 fs p xs) (q : Φ (.int xs.length) fs) : RC (rLen K) [.ref p] H0 fs Φ := fun H k _ c => ⟨p, xs, rfl, .inl (h H k), c _ fs H k q⟩
theorem RC.lenT {p : Addr} {xs : List V} (h : Rt K H0 fs p xs) (q : Φ (.int xs.length) fs) : RC (rLen K) [.ref p] H0 fs Φ := fun H k _ c => ⟨p, xs, rfl, .inr (h H k), c _ fs H k q⟩
theorem RC.lenZ {p : Addr} {ns : List Int} (h : Rl K H0 fs p (zV ns)) (q : Φ (.int ns.length) fs) : RC (rLen K) [.ref p] H0 fs Φ := RC.len h (by rw [zV_length]; exact q)
theorem RC.lenS {z : Str} (h : z.length ≤ 1000000) (q : Φ (.int z.length) fs) : RC rLenS [.str z] H0 fs Φ := fun H k _ c => ⟨z, rfl, sz_le h, c _ fs H k q⟩
theorem RC.abs {i : Int} (q : Φ (.int (i.natAbs : Int)) fs) : RC rAbs [.int i] H0 fs Φ := fun H k _ c => ⟨i, rfl, by
  have e : (if i < 0 then -i else i) = (i.natAbs : Int) := by split <;> omega
  rw [e]; exact c _ fs H k q⟩
theorem RC.max2 {i j : Int} (q : Φ (.int (max i j)) fs) : RC rMax2 [.int i, .int j] H0 fs Φ := fun H k _ c => ⟨i, j, rfl, by
  have e : (if j > i then j else i) = max i j := by split <;> omega
  rw [e]; exact c _ fs H k q⟩
theorem RC.min2 {i j : Int} (q : Φ (.int (min i j)) fs) : RC rMin2 [.int i, .int j] H0 fs Φ := fun H k _ c => ⟨i, j, rfl, by
  have e : (if j < i then j else i) = min i j := by split <;> omega
  rw [e]; exact c _ fs H k q⟩
theorem RC.listL {p : Addr} {xs : List V} (h : Rl K H0 fs p xs) (q : ∀ l, Φ (.ref l) ((l, .lst xs) :: fs)) : RC (rListOf K) [.ref p] H0 fs Φ := fun H k _ c => ⟨p, xs, rfl, .inl (h H k), fun l hl => c _ _ _ (k.new hl) (q l)⟩
theorem RC.listT {p : Addr} {xs : List V} (h : Rt K H0 fs p xs) (q : ∀ l, Φ (.ref l) ((l, .lst xs) :: fs)) : RC (rListOf K) [.ref p] H0 fs Φ := fun H k _ c => ⟨p, xs, rfl, .inr (h H k), fun l hl => c _ _ _ (k.new hl) (q l)⟩
theorem RC.tupL {p : Addr} {xs : List V} (h : Rl K H0 fs p xs) (q : ∀ l, Φ (.ref l) ((l, .tup xs) :: fs)) : RC (rTupOf K) [.ref p] H0 fs Φ := fun H k _ c => ⟨p, xs, rfl, .inl ⟨h H k, fun l hl => c _ _ _ (k.new hl) (q l)⟩⟩
/-- isinstance -/
theorem RC.isi {x : V} {n : String} {t : Value} {b : Bool} (ht : ∀ H, Kn H0 fs H → TyX K H x t) (hk : PySem.W.kitOne K t (.type n) = some b) (q : Φ (.bl b) fs) : RC (rIsi K) [x, .ty n] H0 fs Φ := fun H k _ c =>
  ⟨x, .ty n, t, .type n, b, rfl, .ty n, ht H k, hk, c _ fs H k q⟩

/-! ### items, slices -/
theorem RW.ixZ {p : Addr} {ns : List Int} {i : Int} (h : Rl K H0 fs p (zV ns)) (hi : 0 ≤ i ∧ i < (ns.length : Int)) (q : Φ (.int (gat ns i)) fs) : RW (rIxL K) (.ref p) (.int i) H0 fs Φ := fun H k _ c =>
  ⟨p, _, i, _, rfl, rfl, h H k, atI_zV hi.1 hi.2, c _ fs H k q⟩
theorem RW.ixL {p : Addr} {xs : List V} {i : Int} (h : Rl K H0 fs p xs) (hi : atI xs i = some v) (q : Φ v fs) : RW (rIxL K) (.ref p) (.int i) H0 fs Φ := fun H k _ c =>
  ⟨p, _, i, _, rfl, rfl, h H k, hi, c _ fs H k q⟩
theorem RW.ixT {p : Addr} {xs : List V} {i : Int} (h : Rt K H0 fs p xs) (hi : atI xs i = some v) (q : Φ v fs) : RW (rIxT K) (.ref p) (.int i) H0 fs Φ := fun H k _ c =>
  ⟨p, _, i, _, rfl, rfl, h H k, hi, c _ fs H k q⟩
theorem WO.no {Φo : Option Int → Fs → Prop} (q : Φo Option.none fs) : WO tNoPart σ H0 fs Φo := fun H k _ c => c Option.none fs H k q
theorem WO.part {Φo : Option Int → Fs → Prop} (h : W te σ H0 fs fun x f1 => ∃ i, x = .int i ∧ Φo (some i) f1) : WO (tPart te) σ H0 fs Φo := fun H k _ c =>
  h H k _ fun _ _ H1 k1 ⟨i, e, q⟩ => ⟨i, e, c _ _ H1 k1 q⟩
theorem W.sl {r : V → Option Int → Option Int → Hp → VK → Prop} {tl th : TO} (h : W te σ H0 fs fun x f1 => WO tl σ H0 f1 fun lo f2 => WO th σ H0 f2 fun hi f3 => RS r x lo hi H0 f3 Φ) : W (tSl r te tl th) σ H0 fs Φ := fun H k Q c =>
  h H k _ fun _ _ H1 k1 h1 => h1 H1 k1 _ fun _ _ H2 k2 h2 => h2 H2 k2 _ fun _ _ H3 k3 h3 => h3 H3 k3 Q c
theorem RS.l {p : Addr} {xs : List V} {lo hi : Option Int} (h : Rl K H0 fs p xs) (q : ∀ l, Φ (.ref l) ((l, .lst (cutV xs lo hi)) :: fs)) : RS (rSlL K) (.ref p) lo hi H0 fs Φ := fun H k _ c =>
  ⟨p, xs, rfl, h H k, fun l hl => c _ _ _ (k.new hl) (q l)⟩
theorem cut_take {ns : List Int} {i : Int} (h : 0 ≤ i) : cutV (zV ns) none (some i) = zV (ns.take i.toNat) := by
  obtain ⟨k, rfl⟩ := Int.eq_ofNat_of_zero_le h
  unfold cutV
  rw [HT.sIx_nat, HT.sIx_none, zV_length, List.drop_zero, Nat.sub_zero]
  unfold zV
  rw [List.map_take]
  have e : ((k : Int)).toNat = k := by simp
  rw [e]
  by_cases hk : k ≤ ns.length
  · rw [Nat.min_eq_left hk]
  · rw [Nat.min_eq_right (by omega), List.take_of_length_le (by simp), List.take_of_length_le (by simp; omega)]
theorem cut_drop {ns : List Int} {i : Int} (h : 0 ≤ i) : cutV (zV ns) (some i) none = zV (ns.drop i.toNat) := by
  obtain ⟨k, rfl⟩ := Int.eq_ofNat_of_zero_le h
  unfold cutV
  rw [HT.sIx_nat, HT.sIx_none, zV_length]
  unfold zV
  rw [List.map_drop]
  have e : ((k : Int)).toNat = k := by simp
  rw [e]
  by_cases hk : k ≤ ns.length
  · rw [Nat.min_eq_left hk, List.take_of_length_le (by simp)]
  · rw [Nat.min_eq_right (by omega), List.drop_of_length_le (by simp), List.drop_of_length_le (by simp; omega)]
    exact List.take_nil
theorem RS.take {p : Addr} {ns : List Int} {i : Int} (h : Rl K H0 fs p (zV ns)) (hi : 0 ≤ i) (q : ∀ l, Φ (.ref l) ((l, .lst (zV (ns.take i.toNat))) :: fs)) : RS (rSlL K) (.ref p) none (some i) H0 fs Φ := RS.l h (by rw [cut_take hi]; exact q)
theorem RS.drop {p : Addr} {ns : List Int} {i : Int} (h : Rl K H0 fs p (zV ns)) (hi : 0 ≤ i) (q : ∀ l, Φ (.ref l) ((l, .lst (zV (ns.drop i.toNat))) :: fs)) : RS (rSlL K) (.ref p) (some i) none H0 fs Φ := RS.l h (by rw [cut_drop hi]; exact q)

/-! ### lists joined, repeated -/
theorem RW.cat {p q : Addr} {xs ys : List V} (h1 : Rx H0 fs p (.lst xs)) (h2 : Rx H0 fs q (.lst ys)) (hl : xs.length + ys.length ≤ 1000000) (c : ∀ l, Φ (.ref l) ((l, .lst (xs ++ ys)) :: fs)) : RW rCat (.ref p) (.ref q) H0 fs Φ := fun H k _ cc =>
  ⟨p, q, xs, ys, rfl, rfl, h1 H k, h2 H k, sz_le hl, fun l hl => cc _ _ _ (k.new hl) (c l)⟩
theorem RW.catZ {p q : Addr} {xs ys : List Int} (h1 : Rx H0 fs p (.lst (zV xs))) (h2 : Rx H0 fs q (.lst (zV ys))) (hl : xs.length + ys.length ≤ 1000000) (c : ∀ l, Φ (.ref l) ((l, .lst (zV (xs ++ ys))) :: fs)) : RW rCat (.ref p) (.ref q) H0 fs Φ :=
  RW.cat h1 h2 (by rw [zV_length, zV_length]; exact hl) (by rw [zV_app]; exact c)
theorem flat_rep (x : Int) : ∀ k : Nat, (List.replicate k (zV [x])).flatten = zV (List.replicate k x)
  | 0 => rfl
  | k + 1 => by
    rw [List.replicate_succ, List.flatten_cons, flat_rep x k, List.replicate_succ]; rfl
theorem RW.rep {p : Addr} {x k : Int} (h1 : Rx H0 fs p (.lst (zV [x]))) (hk : k ≤ 1000000 ∧ -1000000 ≤ k) (c : ∀ l, Φ (.ref l) ((l, .lst (zV (List.replicate k.toNat x))) :: fs)) : RW rRep (.ref p) (.int k) H0 fs Φ := fun H kn _ cc => by
  refine ⟨p, k, zV [x], rfl, rfl, h1 H kn, by omega, by omega, sz_le (by show 1 * k.toNat ≤ _; omega), fun l hl => ?_⟩
  rw [flat_rep]
  exact cc _ _ _ (kn.new hl) (c l)

/-! ### tests -/
theorem WT.test (h : W te σ H0 fs fun x f1 => ∃ b, x = .bl b ∧ ΦT b f1) : WT (tTest te) σ H0 fs ΦT := fun H k _ c =>
  h H k _ fun _ _ H1 k1 ⟨b, e, q⟩ => ⟨b, e, c _ _ H1 k1 q⟩
theorem WT.b (h : W te σ H0 fs fun x f1 => ∃ b, x = .bl b ∧ ΦT b f1) : WT (tB te) σ H0 fs ΦT := fun H k _ c =>
  h H k _ fun _ _ H1 k1 ⟨b, e, q⟩ => ⟨b, e, c _ _ H1 k1 q⟩
theorem WT.not (h : WT t σ H0 fs fun b f1 => ΦT (!b) f1) : WT (tNot t) σ H0 fs ΦT := fun H k _ c => h H k _ fun _ _ H1 k1 q => c _ _ H1 k1 q
theorem WT.and (h : WT t σ H0 fs fun b f1 => (b = true → WT u σ H0 f1 ΦT) ∧ (b = false → ΦT false f1)) : WT (tAnd t u) σ H0 fs ΦT := fun H k _ c =>
  h H k _ fun b _ H1 k1 q => by
    cases b with
    | true => exact (q.1 rfl) H1 k1 _ c
    | false => exact c _ _ H1 k1 (q.2 rfl)
theorem WT.or (h : WT t σ H0 fs fun b f1 => (b = true → ΦT true f1) ∧ (b = false → WT u σ H0 f1 ΦT)) : WT (tOr t u) σ H0 fs ΦT := fun H k _ c =>
  h H k _ fun b _ H1 k1 q => by
    cases b with
    | true => exact c _ _ H1 k1 (q.1 rfl)
    | false => exact (q.2 rfl) H1 k1 _ c
theorem W.andV (h : W ta σ H0 fs fun x f1 => ∃ b, x = .bl b ∧ (b = true → W tb σ H0 f1 Φ) ∧ (b = false → Φ (.bl false) f1)) : W (tAndV ta tb) σ H0 fs Φ := fun H k _ c =>
  h H k _ fun _ _ H1 k1 ⟨b, e, q⟩ => ⟨b, e, by
    cases b with
    | true => exact (q.1 rfl) H1 k1 _ c
    | false => exact c _ _ H1 k1 (q.2 rfl)⟩
theorem W.orV (h : W ta σ H0 fs fun x f1 => ∃ b, x = .bl b ∧ (b = true → Φ (.bl true) f1) ∧ (b = false → W tb σ H0 f1 Φ)) : W (tOrV ta tb) σ H0 fs Φ := fun H k _ c =>
  h H k _ fun _ _ H1 k1 ⟨b, e, q⟩ => ⟨b, e, by
    cases b with
    | true => exact c _ _ H1 k1 (q.1 rfl)
    | false => exact (q.2 rfl) H1 k1 _ c⟩
theorem W.notV (h : W ta σ H0 fs fun x f1 => ∃ b, x = .bl b ∧ Φ (.bl (!b)) f1) : W (tNotV ta) σ H0 fs Φ := fun H k _ c =>
  h H k _ fun _ _ H1 k1 ⟨b, e, q⟩ => ⟨b, e, c _ _ H1 k1 q⟩
theorem W.chain (h : W ta σ H0 fs fun x f1 => W tb σ H0 f1 fun y f2 => RW r x y H0 f2 fun z f3 => ∃ b, z = .bl b ∧ (b = true → W tc σ H0 f3 fun w f4 => RW r' y w H0 f4 Φ) ∧ (b = false → Φ (.bl false) f3)) : W (tChain r r' ta tb tc) σ H0 fs Φ := fun H k Q c =>
  h H k _ fun _ _ H1 k1 h1 => h1 H1 k1 _ fun _ _ H2 k2 h2 => h2 H2 k2 _ fun _ _ H3 k3 ⟨b, e, q⟩ => ⟨b, e, by
    cases b with
    | true => exact (q.1 rfl) H3 k3 _ fun _ _ H4 k4 h4 => h4 H4 k4 Q c
    | false => exact c _ _ H3 k3 (q.2 rfl)⟩
end

/-! ### statements -/
section
variable {σ : St} {H0 : Hp} {fs : Fs} {te ta tb : TE} {t : TT} {D : Ends} {ts tu tw tz : TS} {i : Nat} {v : V} {K : PySem.W.Frag}
theorem S.seq (h : N (ts { D with nx := tz D }) σ H0 fs) : N (tSeq ts tz D) σ H0 fs := h
theorem S.next (h : N D.nx σ H0 fs) : N (tNext D) σ H0 fs := h
theorem S.asg (h : W te σ H0 fs fun v f1 => N D.nx (σ.set i (some v)) H0 f1) : N (tAsg te (gName i) D) σ H0 fs := fun H k => h H k _ fun _ _ H1 k1 q => q H1 k1
theorem S.ret (h : W te σ H0 fs fun v f1 => NR D.rt v H0 f1) : N (tRet te D) σ H0 fs := fun H k => h H k _ fun _ _ H1 k1 q => q H1 k1
theorem S.drop (h : W te σ H0 fs fun _ f1 => N D.nx σ H0 f1) : N (tDrop te D) σ H0 fs := fun H k => h H k _ fun _ _ H1 k1 q => q H1 k1
theorem S.if_ (h : WT t σ H0 fs fun b f1 => (b = true → N (ts D) σ H0 f1) ∧ (b = false → N (tu D) σ H0 f1)) : N (tIfS t ts tu D) σ H0 fs := fun H k => h H k _ fun b _ H1 k1 q => by
  cases b with
  | true => exact (q.1 rfl) H1 k1
  | false => exact (q.2 rfl) H1 k1
/-- if t: x = e, one way: x has w behind it -/
theorem S.ifset (w : V) (h : WT t σ H0 fs fun b f1 => f1 = fs ∧ (b = true → W te σ H0 fs fun v f2 => v = w ∧ f2 = fs) ∧ (b = false → σ.set i (some w) = σ)) (hn : N D.nx (σ.set i (some w)) H0 fs) :
    N (tIfS t (tAsg te (gName i)) tNext D) σ H0 fs := fun H k => h H k _ fun b _ H1 k1 ⟨ef, q1, q2⟩ => by
  subst ef
  cases b with
  | true => exact q1 rfl H1 k1 _ fun v f2 H2 k2 ⟨e, e2⟩ => by subst e e2; exact hn H2 k2
  | false =>
    have := hn H1 k1
    rw [q2 rfl] at this
    exact this
/-- xs.append(e) -/
theorem S.app (h : W ta σ H0 fs fun x f1 => ∃ l, x = .ref l ∧ (∃ ys, Rl K H0 f1 l ys) ∧ W te σ H0 f1 fun v f2 => ∃ (xs : List V) (j : Nat), f2[j]? = some (l, .lst xs) ∧ xs.length < 1000000 ∧ N D.nx σ H0 (f2.set j (l, .lst (xs ++ [v])))) :
    N (tDrop (tBM K "list" rAppend ta (tCons te tNil)) D) σ H0 fs := fun H k => h H k _ fun _ _ H1 k1 ⟨l, e, ⟨ys, hy⟩, q⟩ => by
  subst e
  refine ⟨.inl ⟨rfl, ys, hy H1 k1⟩, q H1 k1 _ fun v f2 H2 k2 ⟨xs, j, hj, hl, n⟩ => ⟨l, xs, v, rfl, rfl, k2.get (List.mem_of_getElem? hj), sz_lt hl, n _ (k2.put hj)⟩⟩
/-- xs[i] = e -/
theorem S.setL (h : W te σ H0 fs fun v f1 => W ta σ H0 f1 fun x f2 => W tb σ H0 f2 fun y f3 => ∃ (l : Addr) (z : Int) (xs : List V) (j : Nat), x = .ref l ∧ y = .int z ∧ f3[j]? = some (l, .lst xs) ∧ (0 ≤ z ∧ z < (xs.length : Int)) ∧ N D.nx σ H0 (f3.set j (l, .lst (xs.set z.toNat v)))) :
    N (tAsg te (gSub ta tb rSetL) D) σ H0 fs := fun H k => h H k _ fun _ _ H1 k1 q => q H1 k1 _ fun _ _ H2 k2 q => q H2 k2 _ fun _ _ H3 k3 ⟨l, z, xs, j, e1, e2, hj, hz, n⟩ => by
  subst e1 e2
  exact ⟨l, xs, z, z.toNat, rfl, rfl, k3.get (List.mem_of_getElem? hj), ixN_int hz.1 hz.2, n _ (k3.put hj)⟩
/-- a, b, .. = e -/
theorem S.asgT {n : Nat} {g : TGs} (h : W te σ H0 fs fun v f1 => ∃ a xs, v = .ref a ∧ Rt K H0 f1 a xs ∧ xs.length = n ∧ ∀ H, Kn H0 f1 H → g xs σ H D.nx) : N (tAsg te (gTup K n g) D) σ H0 fs := fun H k =>
  h H k _ fun _ _ H1 k1 ⟨a, xs, e, hr, hl, q⟩ => ⟨a, xs, e, hr H1 k1, hl, q H1 k1⟩
/-- loops; I: what holds ahead of the i-th turn of the slots and the owned objects -/
structure Lp (H0 : Hp) (I : Nat → St → Fs → Prop) (i : Nat) (σ : St) (H : Hp) : Prop where
  ex : ∃ fs, Kn H0 fs H ∧ I i σ fs
theorem Lp.nx {I : Nat → St → Fs → Prop} {i : Nat} (h : I i σ fs) : N (Lp H0 I i) σ H0 fs := fun _ k => ⟨fs, k, h⟩
theorem Lp.sub {I : Nat → St → Fs → Prop} {i : Nat} (f1 : Fs) (s : List.Sublist f1 fs) (h : I i σ f1) : N (Lp H0 I i) σ H0 fs := fun _ k => ⟨f1, k.sub s, h⟩
theorem S.forR {ta : TA} {j : Nat} {n : Int} (I : Nat → St → Fs → Prop)
    (h : WA ta σ H0 fs fun vs f1 => vs = [.int n] ∧ n ≤ 1000000 ∧ -1000000 ≤ n ∧ I 0 σ f1)
    (hs : ∀ (i : Nat) σ' f', (i : Int) < n → I i σ' f' → N (ts { D with nx := Lp H0 I (i + 1), ct := Lp H0 I (i + 1), bk := D.nx }) (σ'.set j (some (.int (i : Int)))) H0 f')
    (hd : ∀ σ' f', I n.toNat σ' f' → N D.nx σ' H0 f') : N (tFor (iRng1 ta) (gName j) ts D) σ H0 fs := fun H k =>
  h H k _ fun vs f1 H1 k1 ⟨e, hn, hm, h0⟩ => by
    refine ⟨n, e, by omega, by omega, for_range (lo := 0) (n := n.toNat) (Lp H0 I) ⟨f1, k1, h0⟩ (fun i σ' H' hi p => ?_) (fun σ' H' p => ?_)⟩
    · obtain ⟨f', k', p⟩ := p.ex
      have e0 : (0 : Int) + (i : Int) = (i : Int) := Int.zero_add _
      show ts _ (σ'.set j (some (.int ((0 : Int) + (i : Int))))) H'
      rw [e0]
      exact hs i σ' f' (by omega) p H' k'
    · obtain ⟨f', k', p⟩ := p.ex
      exact hd σ' f' p H' k'
theorem S.forR2 {ta : TA} {j : Nat} {lo n : Int} (I : Nat → St → Fs → Prop)
    (h : WA ta σ H0 fs fun vs f1 => vs = [.int lo, .int n] ∧ (n ≤ 1000000 ∧ -1000000 ≤ n ∧ lo ≤ 1000000 ∧ -1000000 ≤ lo) ∧ I 0 σ f1)
    (hs : ∀ (i : Nat) σ' f', lo + (i : Int) < n → I i σ' f' → N (ts { D with nx := Lp H0 I (i + 1), ct := Lp H0 I (i + 1), bk := D.nx }) (σ'.set j (some (.int (lo + (i : Int))))) H0 f')
    (hd : ∀ σ' f', I (n - lo).toNat σ' f' → N D.nx σ' H0 f') : N (tFor (iRng2 ta) (gName j) ts D) σ H0 fs := fun H k =>
  h H k _ fun vs f1 H1 k1 ⟨e, hn, h0⟩ => by
    refine ⟨lo, n, e, ⟨by omega, by omega, by omega, by omega⟩, for_range (lo := lo) (n := (n - lo).toNat) (Lp H0 I) ⟨f1, k1, h0⟩ (fun i σ' H' hi p => ?_) (fun σ' H' p => ?_)⟩
    · obtain ⟨f', k', p⟩ := p.ex
      exact hs i σ' f' (by omega) p H' k'
    · obtain ⟨f', k', p⟩ := p.ex
      exact hd σ' f' p H' k'
/-- over a list that the body leaves as it is -/
theorem S.forL {a : Addr} {xs : List V} {g : TG} (I : Nat → St → Fs → Prop)
    (h : W te σ H0 fs fun v f1 => v = .ref a ∧ Rl K H0 f1 a xs ∧ I 0 σ f1)
    (hl : ∀ i σ' f', I i σ' f' → Rl K H0 f' a xs)
    (hs : ∀ (i : Nat) x σ' f', xs[i]? = some x → I i σ' f' → ∀ H, Kn H0 f' H → g x σ' H fun σ2 H2 => ts { D with nx := Lp H0 I (i + 1), ct := Lp H0 I (i + 1), bk := D.nx } σ2 H2)
    (hd : ∀ σ' f', I xs.length σ' f' → N D.nx σ' H0 f') : N (tFor (iList K te) g ts D) σ H0 fs := fun H k =>
  h H k _ fun v f1 H1 k1 ⟨e, hr, h0⟩ => by
    refine ⟨a, e, ⟨xs, hr H1 k1⟩, for_list (K := K) (a := a) (xs := xs) (Lp H0 I) ⟨f1, k1, h0⟩ (fun i σ' H' _ p => ?_) (fun i x σ' H' hx p => ?_) (fun σ' H' p => ?_)⟩
    · obtain ⟨f', k', p⟩ := p.ex
      exact hl i σ' f' p H' k'
    · obtain ⟨f', k', p⟩ := p.ex
      exact hs i x σ' f' hx p H' k'
    · obtain ⟨f', k', p⟩ := p.ex
      exact hd σ' f' p H' k'
/-- .. its items ints, its target a name -/
theorem S.forZ {a : Addr} {ns : List Int} {j : Nat} (I : Nat → St → Fs → Prop)
    (h : W te σ H0 fs fun v f1 => v = .ref a ∧ Rl K H0 f1 a (zV ns) ∧ I 0 σ f1)
    (hl : ∀ i σ' f', I i σ' f' → Rl K H0 f' a (zV ns))
    (hs : ∀ (i : Nat) σ' f', i < ns.length → I i σ' f' → N (ts { D with nx := Lp H0 I (i + 1), ct := Lp H0 I (i + 1), bk := D.nx }) (σ'.set j (some (.int (ns.getD i 0)))) H0 f')
    (hd : ∀ σ' f', I ns.length σ' f' → N D.nx σ' H0 f') : N (tFor (iList K te) (gName j) ts D) σ H0 fs := by
  refine S.forL (xs := zV ns) I h hl (fun i x σ' f' hx p H k => ?_) (fun σ' f' p => hd σ' f' (by rw [zV_length] at p; exact p))
  obtain ⟨hi, e⟩ := List.getElem?_eq_some_iff.mp hx
  rw [zV_length] at hi
  have e2 : x = .int (ns.getD i 0) := by
    have := zV_get (ns := ns) (i := i) (x := ns[i]) (List.getElem?_eq_getElem hi)
    rw [hx] at this
    rw [Option.some.inj this, List.getD_eq_getElem?_getD, List.getElem?_eq_getElem hi]; rfl
  subst e2
  exact hs i σ' f' hi p H k
/-- reversed(a list of ints) -/
theorem S.forRev {ta : TA} {a : Addr} {ns : List Int} {j : Nat} (I : Nat → St → Fs → Prop)
    (h : WA ta σ H0 fs fun vs f1 => vs = [.ref a] ∧ Rl K H0 f1 a (zV ns) ∧ I 0 σ f1)
    (hl : ∀ i σ' f', I i σ' f' → Rl K H0 f' a (zV ns))
    (hs : ∀ (i : Nat) σ' f', i < ns.length → I i σ' f' → N (ts { D with nx := Lp H0 I (i + 1), ct := Lp H0 I (i + 1), bk := D.nx }) (σ'.set j (some (.int (ns.reverse.getD i 0)))) H0 f')
    (hd : ∀ σ' f', I ns.length σ' f' → N D.nx σ' H0 f') : N (tFor (iRev K ta) (gName j) ts D) σ H0 fs := fun H k =>
  h H k _ fun vs f1 H1 k1 ⟨e, hr, h0⟩ => by
    refine ⟨a, zV ns, e, hr H1 k1, RT.for_Itv (K := K) (a := a) (xs := zV ns) (Lp H0 I) ⟨f1, k1, h0⟩ (fun i σ' H' p => ?_) (fun i x σ' H' hi hx p => ?_) (fun σ' H' p => ?_)⟩
    · obtain ⟨f', k', p⟩ := p.ex
      exact hl i σ' f' p H' k'
    · obtain ⟨f', k', p⟩ := p.ex
      rw [zV_length] at hi hx
      have hb : ns.length - 1 - i < ns.length := by omega
      have e2 : x = .int (ns.reverse.getD i 0) := by
        have := zV_get (ns := ns) (i := ns.length - 1 - i) (x := ns[ns.length - 1 - i]) (List.getElem?_eq_getElem hb)
        rw [hx] at this
        rw [Option.some.inj this, List.getD_eq_getElem?_getD, List.getElem?_reverse hi, List.getElem?_eq_getElem hb]; rfl
      subst e2
      exact hs i σ' f' hi p H' k'
    · obtain ⟨f', k', p⟩ := p.ex
      rw [zV_length] at p
      exact hd σ' f' p H' k'
/-- range(n), n written: turn by turn -/
structure Un (H0 : Hp) (I : St → Fs → Prop) (σ : St) (H : Hp) : Prop where
  ex : ∃ fs, Kn H0 fs H ∧ I σ fs
theorem Un.nx {I : St → Fs → Prop} (h : I σ fs) : N (Un H0 I) σ H0 fs := fun _ k => ⟨fs, k, h⟩
def UU (H0 : Hp) (ts : TS) (D : Ends) (j : Nat) : Nat → Nat → St → Fs → Prop
  | 0, _, σ, f => N D.nx σ H0 f
  | m + 1, i, σ, f => N (ts { D with nx := Un H0 (UU H0 ts D j m (i + 1)), ct := Un H0 (UU H0 ts D j m (i + 1)), bk := D.nx }) (σ.set j (some (.int (i : Int)))) H0 f
theorem UU.zero {j i : Nat} (h : N D.nx σ H0 fs) : UU H0 ts D j 0 i σ fs := h
theorem UU.succ {j i m : Nat} (h : N (ts { D with nx := Un H0 (UU H0 ts D j m (i + 1)), ct := Un H0 (UU H0 ts D j m (i + 1)), bk := D.nx }) (σ.set j (some (.int (i : Int)))) H0 fs) : UU H0 ts D j (m + 1) i σ fs := h
theorem S.forU {ta : TA} {j : Nat} (n : Nat) (h : WA ta σ H0 fs fun vs f1 => vs = [.int (n : Int)] ∧ n ≤ 1000000 ∧ UU H0 ts D j n 0 σ f1) : N (tFor (iRng1 ta) (gName j) ts D) σ H0 fs := fun H k =>
  h H k _ fun vs f1 H1 k1 ⟨e, hn, h0⟩ => by
    refine ⟨(n : Int), e, by omega, by omega, for_range (lo := 0) (n := ((n : Int)).toNat) (fun i σ H => ∃ m f, m + i = n ∧ Kn H0 f H ∧ UU H0 ts D j m i σ f) ⟨n, f1, by omega, k1, h0⟩ (fun i σ' H' hi p => ?_) (fun σ' H' p => ?_)⟩
    · obtain ⟨m, f, hm, k', p⟩ := p
      obtain ⟨m, rfl⟩ : ∃ m', m = m' + 1 := ⟨m - 1, by omega⟩
      have e0 : (0 : Int) + (i : Int) = (i : Int) := Int.zero_add _
      show ts _ (σ'.set j (some (.int ((0 : Int) + (i : Int))))) H'
      rw [e0]
      have q := p H' k'
      have ee : Un H0 (UU H0 ts D j m (i + 1)) = fun σ H => ∃ m f, m + (i + 1) = n ∧ Kn H0 f H ∧ UU H0 ts D j m (i + 1) σ f := by
        funext σ2 H2
        refine propext ⟨fun ⟨f, k2, u⟩ => ⟨m, f, by omega, k2, u⟩, fun ⟨m', f, hm', k2, u⟩ => ⟨f, k2, ?_⟩⟩
        have : m' = m := by omega
        subst this
        exact u
      rw [ee] at q
      exact q
    · obtain ⟨m, f, hm, k', p⟩ := p
      have : m = 0 := by omega
      subst this
      exact p H' k'
/-- a statement, then the rest, with a word between them -/
def tCut (t u : TS) : TS := fun D σ H => ∃ Mid : St → Hp → Prop, t { D with nx := Mid } σ H ∧ ∀ σ' H', Mid σ' H' → u D σ' H'
theorem pss_cut {X : Cx} {st : Stmt} {rest : List Stmt} {t u : TS} (h1 : PS X st t) (h2 : PSs X rest u) : PSs X (st :: rest) (tCut t u) := by
  refine ⟨fun pins s σ H D I h => ?_⟩
  obtain ⟨Mid, hm, hu⟩ := h
  refine wpAny_execs_cons (thn (h1.run pins s σ H { D with nx := Mid } I hm) fun f s1 q => ?_)
  cases f with
  | next =>
    obtain ⟨σ', H', I', q⟩ := q
    exact h2.run pins s1 σ' H' D I' (hu σ' H' q)
  | ret v => exact q
  | brk => exact q
  | cont => exact q
theorem S.cut (I : St → Fs → Prop) (h : N (ts { D with nx := Un H0 I }) σ H0 fs) (k : ∀ σ' f', I σ' f' → N (tz D) σ' H0 f') : N (tCut ts tz D) σ H0 fs := fun H kn =>
  ⟨Un H0 I, h H kn, fun σ' H' ⟨⟨f', k', i⟩⟩ => k σ' f' i H' k'⟩
theorem Un.sub {I : St → Fs → Prop} (f1 : Fs) (s : List.Sublist f1 fs) (h : I σ f1) : N (Un H0 I) σ H0 fs := fun _ k => ⟨f1, k.sub s, h⟩
/-- while; I: what holds, by a number that falls -/
structure Wl (H0 : Hp) (I : Nat → St → Fs → Prop) (m : Nat) (σ : St) (H : Hp) : Prop where
  ex : ∃ m', m' < m ∧ ∃ fs, Kn H0 fs H ∧ I m' σ fs
theorem Wl.nx {I : Nat → St → Fs → Prop} {m m' : Nat} (hm : m' < m) (h : I m' σ fs) : N (Wl H0 I m) σ H0 fs := fun _ k => ⟨m', hm, fs, k, h⟩
theorem Wl.sub {I : Nat → St → Fs → Prop} {m m' : Nat} (f1 : Fs) (s : List.Sublist f1 fs) (hm : m' < m) (h : I m' σ f1) : N (Wl H0 I m) σ H0 fs := fun _ k => ⟨m', hm, f1, k.sub s, h⟩
theorem S.while_ (I : Nat → St → Fs → Prop) (m0 : Nat) (h0 : I m0 σ fs)
    (hs : ∀ m σ' f', I m σ' f' → WT t σ' H0 f' fun b f1 => (b = true → N (ts { D with nx := Wl H0 I m, ct := Wl H0 I m, bk := D.nx }) σ' H0 f1) ∧ (b = false → N D.nx σ' H0 f1)) :
    N (tWhile t ts D) σ H0 fs := fun H k => by
  refine ⟨fun m σ H => ∃ fs, Kn H0 fs H ∧ I m σ fs, ⟨m0, fs, k, h0⟩, fun m σ' H' ⟨f', k', p⟩ => ?_⟩
  refine hs m σ' f' p H' k' _ fun b f1 H1 k1 q => ?_
  cases b with
  | true =>
    show ∃ N' : St → Hp → Prop, _
    exact ⟨Wl H0 I m, fun σ2 H2 w => w.ex, (q.1 rfl) H1 k1⟩
  | false => exact (q.2 rfl) H1 k1
end

/-! ### comprehensions whose items are all kept -/
section
variable {σ : St} {H0 : Hp} {fs : Fs} {Φ : CV} {te tl : TE} {K : PySem.W.Frag}
/-- over range(n): the i-th item is f i; the item's reading leaves the owned objects as they are (or drops what it made) -/
theorem W.lcR {ta : TA} {j : Nat} {vs : List Nat} {n : Int} (f : Nat → V)
    (h : WA ta σ H0 fs fun us f1 => us = [.int n] ∧ n ≤ 100000 ∧ -100000 ≤ n ∧
      (∀ x, wipe ((wipe σ vs).set j (some x)) vs = wipe σ vs) ∧
      (∀ (i : Nat) (D : Addr) (acc : List V), (i : Int) < n → W te ((wipe σ vs).set j (some (.int (i : Int)))) H0 ((D, .lst acc) :: f1) fun v f2 => v = f i ∧ List.Sublist ((D, .lst acc) :: f1) f2) ∧
      ∀ D, Φ (.ref D) ((D, .lst ((List.range n.toNat).map f)) :: f1)) : W (tLc (iRng1 ta) (gName j) tYes te vs) σ H0 fs Φ := fun H k Q c =>
  h H k _ fun us f1 H1 k1 ⟨e, hn, hm, hw, hs, hd⟩ => by
    refine ⟨n, e, by omega, by omega, fun D hD => ?_⟩
    refine lc_range (lo := 0) (n := n.toNat) (fun i H' => Kn H0 ((D, .lst ((List.range i).map f)) :: f1) H') (k1.new hD) (fun i H' hi p => ?_) (fun H' p => c _ _ _ p (hd D))
    have e0 : (0 : Int) + (i : Int) = (i : Int) := Int.zero_add _
    refine ⟨hw _, ?_⟩
    show te ((wipe σ vs).set j (some (.int ((0 : Int) + (i : Int))))) H' _
    rw [e0]
    refine hs i D _ (by omega) H' p _ fun v f2 H2 k2 ⟨ev, sb⟩ => ?_
    subst ev
    have k3 := k2.sub sb
    refine ⟨_, k3.get (.head _), sz_lt (by simp; omega), ?_⟩
    have k4 := k3.put (i := 0) (o' := .lst ((List.range i).map f ++ [f i])) rfl
    show Kn H0 ((D, .lst ((List.range (i + 1)).map f)) :: f1) _
    rw [List.range_succ, List.map_append]
    exact k4
/-- over a list of ints -/
theorem W.lcZ {ns : List Int} {j : Nat} {vs : List Nat} (f : Int → V)
    (h : W tl σ H0 fs fun v f1 => ∃ a, v = .ref a ∧ Rl K H0 f1 a (zV ns) ∧ ns.length ≤ 100000 ∧
      (∀ x, wipe ((wipe σ vs).set j (some x)) vs = wipe σ vs) ∧
      (∀ (x : Int) (D : Addr) (acc : List V), x ∈ ns → W te ((wipe σ vs).set j (some (.int x))) H0 ((D, .lst acc) :: f1) fun v f2 => v = f x ∧ List.Sublist ((D, .lst acc) :: f1) f2) ∧
      ∀ D, Φ (.ref D) ((D, .lst (ns.map f)) :: f1)) : W (tLc (iList K tl) (gName j) tYes te vs) σ H0 fs Φ := fun H k Q c =>
  h H k _ fun v f1 H1 k1 ⟨a, e, hr, hn, hw, hs, hd⟩ => by
    refine ⟨a, e, ⟨_, hr H1 k1⟩, fun D hD => ?_⟩
    refine lc_list (K := K) (a := a) (xs := zV ns) (fun i H' => Kn H0 ((D, .lst ((ns.take i).map f)) :: f1) H') (k1.new hD) (fun i H' _ p => hr H' p.drop) (fun i x H' hi p => ?_) (fun H' p => ?_)
    · obtain ⟨hl, e1⟩ := List.getElem?_eq_some_iff.mp hi
      rw [zV_length] at hl
      have e2 : x = .int ns[i] := by
        have := zV_get (ns := ns) (i := i) (x := ns[i]) (List.getElem?_eq_getElem hl)
        rw [hi] at this
        exact Option.some.inj this
      subst e2
      refine ⟨hw _, ?_⟩
      refine hs ns[i] D _ (List.getElem_mem hl) H' p _ fun v f2 H2 k2 ⟨ev, sb⟩ => ?_
      subst ev
      have k3 := k2.sub sb
      refine ⟨_, k3.get (.head _), sz_lt (by simp; omega), ?_⟩
      have k4 := k3.put (i := 0) (o' := .lst ((ns.take i).map f ++ [f ns[i]])) rfl
      show Kn H0 ((D, .lst ((ns.take (i + 1)).map f)) :: f1) _
      rw [List.take_add_one, List.getElem?_eq_getElem hl, List.map_append]
      exact k4
    · rw [zV_length, List.take_length] at p
      exact c _ _ _ p (hd D)
end
end Pa

namespace Pa
open PySem PySem.Spec PyProof.Rows L2

/-! ### products, quotients -/
section
variable {X : Cx}
theorem op_mulG : OpR X (binaryOp .Mult) (rI IntMulOk fun i j => .int (i * j)) := opI fun _ _ _ _ _ _ _ hc q => mul_int q hc
/-- // by a divisor other than nought -/
def CDivG (i j : Int) : Prop := j ≠ 0 ∧ Builtin.divisionGoesByPylong i j = false
theorem op_fdivG : OpR X (binaryOp .FloorDiv) (rI CDivG fun i j => .int (i.fdiv j)) := opI fun _ _ _ _ _ _ _ hc q => floordiv_int hc.1 q (.inl hc.2)
theorem op_addS : OpR X (binaryOp .Add) (fun x y H Q => ∃ i j, x = .str i ∧ y = .str j ∧ i.length + j.length ≤ sizeLine ∧ Q (.str (i ++ j)) H) := op_add_str
end
theorem CDivG.small {i j : Int} (h : j ≠ 0) (h2 : j.natAbs < 1073741824) : CDivG i j := ⟨h, PyProof.noPylong_small h2⟩
theorem CDivG.bits {i j : Int} {b : Nat} (h : j ≠ 0) (h2 : j.natAbs < 2 ^ b) (hb : b ≤ 9000) : CDivG i j :=
  ⟨h, PyProof.noPylong_of_log2 ((Nat.log2_lt (fun z => h (Int.natAbs_eq_zero.mp z))).mpr (Nat.lt_of_lt_of_le h2 (Nat.pow_le_pow_right (by decide) hb)))⟩
theorem mulL {i j : Int} (h1 : -(2 ^ 64) < i) (h2 : i < 2 ^ 64) : IntMulOk i j := .of_left (intBits_le_64 h1 h2)
theorem mulR {i j : Int} (h1 : -(2 ^ 64) < j) (h2 : j < 2 ^ 64) : IntMulOk i j := .of_right (intBits_le_64 h1 h2)
theorem bits_of {i : Int} {a : Nat} (h : i.natAbs < 2 ^ a) : Builtin.Int.intBits i ≤ a := by
  unfold Builtin.Int.intBits
  split
  · exact Nat.zero_le _
  · by_cases h0 : i.natAbs = 0
    · rename_i hi
      exact absurd (by simpa using (Int.natAbs_eq_zero.mp h0)) hi
    · have := (Nat.log2_lt h0).mpr h
      omega
theorem mulB {i j : Int} {a b : Nat} (ha : i.natAbs < 2 ^ a) (hb : j.natAbs < 2 ^ b) (h : a + b ≤ 134217728) : IntMulOk i j := by
  have h1 := bits_of ha
  have h2 := bits_of hb
  have e : bitsLine = 134217728 := by decide
  unfold IntMulOk
  intro z
  rw [Bool.and_eq_true] at z
  have z2 := z.2
  unfold Builtin.Int.intTooBig at z2
  have z3 := of_decide_eq_true z2
  rw [e] at z3
  omega

/-! ### comprehensions of ints -/
section
variable {σ : St} {H0 : Hp} {fs : Fs} {Φ : CV} {te tl : TE} {K : PySem.W.Frag}
theorem map_zV {α : Type} (l : List α) (g : α → Int) : l.map (fun i => V.int (g i)) = zV (l.map g) := by
  unfold zV; rw [List.map_map]; rfl
theorem W.lcRz {ta : TA} {j : Nat} {vs : List Nat} {n : Int} (g : Nat → Int)
    (h : WA ta σ H0 fs fun us f1 => us = [.int n] ∧ n ≤ 100000 ∧ -100000 ≤ n ∧
      (∀ x, wipe ((wipe σ vs).set j (some x)) vs = wipe σ vs) ∧
      (∀ (i : Nat) (D : Addr) (acc : List V), (i : Int) < n → W te ((wipe σ vs).set j (some (.int (i : Int)))) H0 ((D, .lst acc) :: f1) fun v f2 => v = .int (g i) ∧ List.Sublist ((D, .lst acc) :: f1) f2) ∧
      ∀ D, Φ (.ref D) ((D, .lst (zV ((List.range n.toNat).map g))) :: f1)) : W (tLc (iRng1 ta) (gName j) tYes te vs) σ H0 fs Φ := by
  refine W.lcR (n := n) (fun i => .int (g i)) ?_
  rw [map_zV]
  exact h
theorem W.lcZz {ns : List Int} {j : Nat} {vs : List Nat} (g : Int → Int)
    (h : W tl σ H0 fs fun v f1 => ∃ a, v = .ref a ∧ Rl K H0 f1 a (zV ns) ∧ ns.length ≤ 100000 ∧
      (∀ x, wipe ((wipe σ vs).set j (some x)) vs = wipe σ vs) ∧
      (∀ (x : Int) (D : Addr) (acc : List V), x ∈ ns → W te ((wipe σ vs).set j (some (.int x))) H0 ((D, .lst acc) :: f1) fun v f2 => v = .int (g x) ∧ List.Sublist ((D, .lst acc) :: f1) f2) ∧
      ∀ D, Φ (.ref D) ((D, .lst (zV (ns.map g))) :: f1)) : W (tLc (iList K tl) (gName j) tYes te vs) σ H0 fs Φ := by
  refine W.lcZ (ns := ns) (fun i => .int (g i)) ?_
  rw [map_zV]
  exact h
end

/-! ### isinstance -/
section
variable {H0 : Hp} {fs : Fs} {Φ : CV} {K : PySem.W.Frag}
theorem RC.isiII {i : Int} (q : Φ (.bl true) fs) : RC (rIsi K) [.int i, .ty "int"] H0 fs Φ := RC.isi (fun _ _ => .base (.int i)) (kit_ty (by decide +kernel)) q
theorem RC.isiIB {i : Int} (q : Φ (.bl false) fs) : RC (rIsi K) [.int i, .ty "bool"] H0 fs Φ := RC.isi (fun _ _ => .base (.int i)) (kit_ty (by decide +kernel)) q
theorem RC.isiBB {b : Bool} (q : Φ (.bl true) fs) : RC (rIsi K) [.bl b, .ty "bool"] H0 fs Φ := RC.isi (fun _ _ => .base (.bl b)) (kit_ty (by decide +kernel)) q
theorem RC.isiSI {x : Str} (q : Φ (.bl false) fs) : RC (rIsi K) [.str x, .ty "int"] H0 fs Φ := RC.isi (fun _ _ => .base (.str x)) (kit_ty (by decide +kernel)) q
theorem RC.isiSB {x : Str} (q : Φ (.bl false) fs) : RC (rIsi K) [.str x, .ty "bool"] H0 fs Φ := RC.isi (fun _ _ => .base (.str x)) (kit_ty (by decide +kernel)) q
theorem RC.isiSS {x : Str} (q : Φ (.bl true) fs) : RC (rIsi K) [.str x, .ty "str"] H0 fs Φ := RC.isi (fun _ _ => .base (.str x)) (kit_ty (by decide +kernel)) q
theorem RC.isiNI (q : Φ (.bl false) fs) : RC (rIsi K) [.non, .ty "int"] H0 fs Φ := RC.isi (fun _ _ => .base .non) (kit_ty (by decide +kernel)) q
theorem RC.isiNB (q : Φ (.bl false) fs) : RC (rIsi K) [.non, .ty "bool"] H0 fs Φ := RC.isi (fun _ _ => .base .non) (kit_ty (by decide +kernel)) q
theorem RC.isiLL {p : Addr} {xs : List V} (h : Rx H0 fs p (.lst xs)) (q : Φ (.bl true) fs) : RC (rIsi K) [.ref p, .ty "list"] H0 fs Φ := RC.isi (fun H k => .base (.lst (h H k))) (kit_ty (by decide +kernel)) q
theorem RC.isiTT {p : Addr} {xs : List V} (h : Rx H0 fs p (.tup xs)) (q : Φ (.bl true) fs) : RC (rIsi K) [.ref p, .ty "tuple"] H0 fs Φ := RC.isi (fun H k => .base (.tup (h H k))) (kit_ty (by decide +kernel)) q
theorem RC.isiLI {p : Addr} {xs : List V} (h : Rx H0 fs p (.lst xs)) (q : Φ (.bl false) fs) : RC (rIsi K) [.ref p, .ty "int"] H0 fs Φ := RC.isi (fun H k => .base (.lst (h H k))) (kit_ty (by decide +kernel)) q
theorem RC.isiLB {p : Addr} {xs : List V} (h : Rx H0 fs p (.lst xs)) (q : Φ (.bl false) fs) : RC (rIsi K) [.ref p, .ty "bool"] H0 fs Φ := RC.isi (fun H k => .base (.lst (h H k))) (kit_ty (by decide +kernel)) q
theorem RC.isiTI {p : Addr} {xs : List V} (h : Rx H0 fs p (.tup xs)) (q : Φ (.bl false) fs) : RC (rIsi K) [.ref p, .ty "int"] H0 fs Φ := RC.isi (fun H k => .base (.tup (h H k))) (kit_ty (by decide +kernel)) q
theorem RC.isiTB {p : Addr} {xs : List V} (h : Rx H0 fs p (.tup xs)) (q : Φ (.bl false) fs) : RC (rIsi K) [.ref p, .ty "bool"] H0 fs Φ := RC.isi (fun H k => .base (.tup (h H k))) (kit_ty (by decide +kernel)) q
end

theorem S.dropS {σ : St} {H0 : Hp} {fs : Fs} {tr : TA} {D : Ends} {sp : Sp} {E : St → XK} (h : W (tCallS sp E tr) σ H0 fs fun _ f1 => N D.nx σ H0 f1) : N (tDrop (tCallS sp E tr) D) σ H0 fs := S.drop h
/-! ### the ends -/
theorem N.sub {e : St → Hp → Prop} {σ : St} {H0 : Hp} {fs : Fs} (f0 : Fs) (s : List.Sublist f0 fs) (h : N e σ H0 f0) : N e σ H0 fs := fun H k => h H (k.sub s)
theorem N.of {e : St → Hp → Prop} {σ : St} {H0 : Hp} {fs : Fs} (h : N e σ H0 fs) : ∀ H, Kn H0 fs H → e σ H := h
theorem N.go {t : TS} {D : Ends} {σ : St} {H : Hp} (h : N (t D) σ H []) : t D σ H := h H (Same.refl H)
theorem NR.sub {Q : VK} {v : V} {H : Hp} {f1 f2 : Fs} (h : NR Q v H f1) (s : List.Sublist f1 f2) : NR Q v H f2 := fun H' k => h H' (k.sub s)
theorem NR.k {Q : VK} {v : V} {H : Hp} {f1 : Fs} (h : NR Q v H f1) {H' : Hp} (k : Kn H f1 H') : Q v H' := h H' k
end Pa

namespace Pa

/-! ### rows without noughts at their end -/
def trim (xs : List Int) : List Int := (xs.reverse.dropWhile (· == 0)).reverse
theorem trim_nil : trim [] = [] := rfl
theorem trim_zero (xs : List Int) : trim (xs ++ [0]) = trim xs := by
  unfold trim
  rw [List.reverse_append]
  rfl
theorem trim_last (xs : List Int) {x : Int} (h : x ≠ 0) : trim (xs ++ [x]) = xs ++ [x] := by
  unfold trim
  rw [List.reverse_append]
  show (List.dropWhile (· == 0) (x :: xs.reverse)).reverse = _
  rw [List.dropWhile_cons_of_neg (by simpa using h), List.reverse_cons, List.reverse_reverse]
/-- its last number is not nought -/
def Tr (xs : List Int) : Prop := trim xs = xs
theorem snoc_cases (xs : List Int) : xs = [] ∨ ∃ ys y, xs = ys ++ [y] := by
  cases h : xs.reverse with
  | nil => left; simpa using h
  | cons y ys => right; exact ⟨ys.reverse, y, by rw [← List.reverse_reverse xs, h, List.reverse_cons]⟩
theorem trim_cases (xs : List Int) : ∃ k, xs = trim xs ++ List.replicate k 0 ∧ (trim xs = [] ∨ ∃ ys y, trim xs = ys ++ [y] ∧ y ≠ 0) := by
  generalize hn : xs.length = n
  induction n generalizing xs with
  | zero =>
    have : xs = [] := List.length_eq_zero_iff.mp hn
    subst this
    exact ⟨0, rfl, .inl rfl⟩
  | succ n ih =>
    rcases snoc_cases xs with rfl | ⟨ys, y, rfl⟩
    · simp at hn
    · by_cases hy : y = 0
      · subst hy
        obtain ⟨k, e, c⟩ := ih ys (by simpa using hn)
        rw [trim_zero]
        refine ⟨k + 1, ?_, c⟩
        rw [List.replicate_succ', ← List.append_assoc, ← e]
      · refine ⟨0, ?_, .inr ⟨ys, y, trim_last ys hy, hy⟩⟩
        rw [trim_last ys hy]; simp
theorem tr_trim (xs : List Int) : Tr (trim xs) := by
  obtain ⟨k, e, c | ⟨ys, y, c, hy⟩⟩ := trim_cases xs
  · unfold Tr; rw [c]; rfl
  · unfold Tr; rw [c, trim_last ys hy]
theorem trim_length_le (xs : List Int) : (trim xs).length ≤ xs.length := by
  obtain ⟨k, e, _⟩ := trim_cases xs
  have := congrArg List.length e
  rw [List.length_append] at this
  omega
theorem mem_trim {xs : List Int} {x : Int} (h : x ∈ trim xs) : x ∈ xs := by
  obtain ⟨k, e, _⟩ := trim_cases xs
  rw [e]; exact List.mem_append_left _ h
theorem tr_nil : Tr [] := rfl
theorem tr_last {xs : List Int} (h : Tr xs) (hne : xs ≠ []) : xs.getLast hne ≠ 0 := by
  rcases snoc_cases xs with rfl | ⟨ys, y, rfl⟩
  · exact absurd rfl hne
  · rw [show (ys ++ [y]).getLast hne = y by simp]
    intro hy
    subst hy
    unfold Tr at h
    rw [trim_zero] at h
    have := congrArg List.length h
    have h2 := trim_length_le ys
    simp at this
    omega
theorem tr_of_last {ys : List Int} {y : Int} (h : y ≠ 0) : Tr (ys ++ [y]) := trim_last ys h
theorem take_succ_getD {xs : List Int} {n : Nat} (h : n < xs.length) : xs.take (n + 1) = xs.take n ++ [xs.getD n 0] := by
  rw [List.take_add_one, List.getElem?_eq_getElem h, List.getD_eq_getElem?_getD, List.getElem?_eq_getElem h]; rfl

theorem trim_rep (xs : List Int) : ∀ k : Nat, trim (xs ++ List.replicate k 0) = trim xs
  | 0 => by simp
  | k + 1 => by rw [List.replicate_succ', ← List.append_assoc, trim_zero, trim_rep xs k]

/-! ### bounds -/
def Bd (a : Nat) (x : Int) : Prop := x.natAbs < 2 ^ a
def BdL (a : Nat) (xs : List Int) : Prop := ∀ x ∈ xs, x.natAbs < 2 ^ a
theorem Bd.mono {a b : Nat} {x : Int} (h : Bd a x) (hab : a ≤ b) : Bd b x := Nat.lt_of_lt_of_le h (Nat.pow_le_pow_right (by decide) hab)
theorem BdL.mono {a b : Nat} {xs : List Int} (h : BdL a xs) (hab : a ≤ b) : BdL b xs := fun x hx => Bd.mono (h x hx) hab
theorem Bd.mul {a b : Nat} {x y : Int} (hx : Bd a x) (hy : Bd b y) : Bd (a + b) (x * y) := by
  unfold Bd at *
  rw [Int.natAbs_mul, Nat.pow_add]
  exact Nat.mul_lt_mul'' hx hy
theorem Bd.add {a : Nat} {x y : Int} (hx : Bd a x) (hy : Bd a y) : Bd (a + 1) (x + y) := by
  unfold Bd at *
  have := Int.natAbs_add_le x y
  rw [Nat.pow_succ]; omega
theorem Bd.neg {a : Nat} {x : Int} (hx : Bd a x) : Bd a (-x) := by
  unfold Bd at *; rw [Int.natAbs_neg]; exact hx
theorem Bd.sub {a : Nat} {x y : Int} (hx : Bd a x) (hy : Bd a y) : Bd (a + 1) (x - y) := by
  rw [Int.sub_eq_add_neg]; exact hx.add hy.neg
theorem Bd.zero {a : Nat} : Bd a 0 := by
  unfold Bd; exact Nat.two_pow_pos a
theorem BdL.trim {a : Nat} {xs : List Int} (h : BdL a xs) : BdL a (trim xs) := fun x hx => h x (mem_trim hx)
theorem BdL.at {a : Nat} {xs : List Int} (h : BdL a xs) (i : Nat) : Bd a (xs.getD i 0) := by
  rw [List.getD_eq_getElem?_getD]
  cases e : xs[i]? with
  | none => exact Bd.zero
  | some x => exact h x (List.mem_of_getElem? e)
theorem BdL.gat {a : Nat} {xs : List Int} (h : BdL a xs) (i : Int) : Bd a (gat xs i) := h.at i.toNat
theorem BdL.nil {a : Nat} : BdL a [] := fun _ h => nomatch h
theorem Bd.of_abs {a : Nat} {x : Int} {n : Nat} (h : x.natAbs ≤ n) (hn : n < 2 ^ a) : Bd a x := Nat.lt_of_le_of_lt h hn

/-! ### sums -/
def plus (xs ys : List Int) : List Int := trim ((List.range (max (xs.length : Int) (ys.length : Int)).toNat).map fun (k : Nat) => gat xs (k : Int) + gat ys (k : Int))
def minus (xs ys : List Int) : List Int := trim ((List.range (max (xs.length : Int) (ys.length : Int)).toNat).map fun (k : Nat) => gat xs (k : Int) - gat ys (k : Int))
def scaled (xs : List Int) (m : Int) : List Int := trim (xs.map fun x => m * x)
theorem plus_len (xs ys : List Int) : (plus xs ys).length ≤ max xs.length ys.length := by
  unfold plus
  refine Nat.le_trans (trim_length_le _) ?_
  rw [List.length_map, List.length_range]; omega
theorem minus_len (xs ys : List Int) : (minus xs ys).length ≤ max xs.length ys.length := by
  unfold minus
  refine Nat.le_trans (trim_length_le _) ?_
  rw [List.length_map, List.length_range]; omega
theorem scaled_len (xs : List Int) (m : Int) : (scaled xs m).length ≤ xs.length := by
  unfold scaled
  refine Nat.le_trans (trim_length_le _) ?_
  rw [List.length_map]; omega
theorem plus_bd {a : Nat} {xs ys : List Int} (hx : BdL a xs) (hy : BdL a ys) : BdL (a + 1) (plus xs ys) := by
  refine BdL.trim fun z hz => ?_
  obtain ⟨k, _, rfl⟩ := List.mem_map.mp hz
  exact (hx.gat _).add (hy.gat _)
theorem minus_bd {a : Nat} {xs ys : List Int} (hx : BdL a xs) (hy : BdL a ys) : BdL (a + 1) (minus xs ys) := by
  refine BdL.trim fun z hz => ?_
  obtain ⟨k, _, rfl⟩ := List.mem_map.mp hz
  exact (hx.gat _).sub (hy.gat _)
theorem scaled_bd {a b : Nat} {xs : List Int} {m : Int} (hx : BdL a xs) (hm : Bd b m) : BdL (b + a) (scaled xs m) := by
  refine BdL.trim fun z hz => ?_
  obtain ⟨k, hk, rfl⟩ := List.mem_map.mp hz
  exact hm.mul (hx k hk)

/-! ### the value -/
def pval : List Int → Int → Int
  | [], _ => 0
  | a :: r, x => a + x * pval r x
theorem pval_append (xs ys : List Int) (x : Int) : pval (xs ++ ys) x = pval xs x + x ^ xs.length * pval ys x := by
  induction xs with
  | nil => simp [pval]
  | cons a r ih =>
    simp only [List.cons_append, pval, ih, List.length_cons, Int.pow_succ]
    rw [Int.mul_add, Int.add_assoc, ← Int.mul_assoc, Int.mul_comm x (x ^ r.length)]
theorem pval_take_succ {ns : List Int} {i : Nat} (h : i < ns.length) (x : Int) : pval (ns.take (i + 1)) x = pval (ns.take i) x + ns.getD i 0 * x ^ i := by
  rw [take_succ_getD h, pval_append, List.length_take, Nat.min_eq_left (Nat.le_of_lt h)]
  simp only [pval, Int.mul_zero, Int.add_zero]
  rw [Int.mul_comm (x ^ i)]
theorem drop_pred_getD {ns : List Int} {i : Nat} (h : i < ns.length) : ns.drop (ns.length - (i + 1)) = ns.reverse.getD i 0 :: ns.drop (ns.length - i) := by
  have hb : ns.length - 1 - i < ns.length := by omega
  rw [List.drop_eq_getElem_cons (by omega : ns.length - (i + 1) < ns.length), List.getD_eq_getElem?_getD, List.getElem?_reverse h, List.getElem?_eq_getElem hb]
  have e1 : ns.length - (i + 1) + 1 = ns.length - i := by omega
  have e2 : ns.length - (i + 1) = ns.length - 1 - i := by omega
  rw [e1]
  simp only [Option.getD_some, e2]
theorem pval_bd {a b : Nat} {x : Int} (hx : Bd b x) : ∀ {ns : List Int}, BdL a ns → Bd (a + (b + 1) * ns.length) (pval ns x)
  | [], _ => Bd.zero
  | n :: r, h => by
    have ih := pval_bd hx (ns := r) fun y hy => h y (List.mem_cons_of_mem _ hy)
    have h1 : Bd a n := h n List.mem_cons_self
    have h2 := hx.mul ih
    have h3 := (h1.mono (b := b + (a + (b + 1) * r.length)) (by omega)).add h2
    refine h3.mono ?_
    rw [List.length_cons, Nat.mul_succ]
    omega
theorem Bd.pow {b : Nat} {x : Int} (hx : Bd b x) : ∀ n : Nat, Bd (b * n + 1) (x ^ n)
  | 0 => by unfold Bd; simp
  | n + 1 => by
    rw [Int.pow_succ]
    exact ((Bd.pow hx n).mul hx).mono (by rw [Nat.mul_succ]; omega)
end Pa
namespace Pa
/-! ### loops -/
def lp {α : Type} (f : Nat → α → α) : Nat → α → α
  | 0, s => s
  | n + 1, s => f n (lp f n s)
theorem lp_inv {α : Type} {f : Nat → α → α} {s : α} (p : Nat → α → Prop) (h0 : p 0 s) : ∀ n : Nat, (∀ i a, i < n → p i a → p (i + 1) (f i a)) → p n (lp f n s)
  | 0, _ => h0
  | n + 1, hs => hs n _ (Nat.lt_succ_self n) (lp_inv p h0 n fun i a hi => hs i a (Nat.lt_succ_of_lt hi))

/-! ### products -/
/-- one number's turn -/
def tmIn (x : Int) (ys : List Int) (j k : Nat) (acc : List Int) : List Int := acc.set (j + k) (acc.getD (j + k) 0 + x * ys.getD k 0)
def tmRow (xs ys : List Int) (j : Nat) (acc : List Int) : List Int := lp (tmIn (xs.getD j 0) ys j) ys.length acc
def tmRaw (xs ys : List Int) : List Int := lp (tmRow xs ys) xs.length (List.replicate (xs.length + ys.length) 0)
def tm (xs ys : List Int) : List Int := trim (tmRaw xs ys)
theorem tmIn_len (x : Int) (ys : List Int) (j k : Nat) (acc : List Int) : (tmIn x ys j k acc).length = acc.length := List.length_set
theorem lp_len {f : Nat → List Int → List Int} (h : ∀ i a, (f i a).length = a.length) : ∀ (n : Nat) (s : List Int), (lp f n s).length = s.length
  | 0, _ => rfl
  | n + 1, s => (h n _).trans (lp_len h n s)
theorem tmRow_len (xs ys : List Int) (j : Nat) (acc : List Int) : (tmRow xs ys j acc).length = acc.length := lp_len (fun i a => tmIn_len _ _ _ _ _) _ _
theorem tmRaw_len (xs ys : List Int) : (tmRaw xs ys).length = xs.length + ys.length := by
  unfold tmRaw
  rw [lp_len (fun i a => tmRow_len _ _ _ _), List.length_replicate]
theorem getD_set (l : List Int) (i j : Nat) (x : Int) : (l.set i x).getD j 0 = if i = j then (if i < l.length then x else 0) else l.getD j 0 := by
  rw [List.getD_eq_getElem?_getD, List.getD_eq_getElem?_getD, List.getElem?_set]
  split
  · rename_i h
    subst h
    split
    · rfl
    · rfl
  · rfl
theorem getD_replicate (n j : Nat) : (List.replicate n (0 : Int)).getD j 0 = 0 := by
  rw [List.getD_eq_getElem?_getD, List.getElem?_replicate]
  split <;> rfl
theorem tmIn_getD (x : Int) (ys : List Int) (j k : Nat) (acc : List Int) (i : Nat) : (tmIn x ys j k acc).getD i 0 = if j + k = i then (if j + k < acc.length then acc.getD (j + k) 0 + x * ys.getD k 0 else 0) else acc.getD i 0 := getD_set _ _ _ _
/-- how great a product's numbers are -/
theorem tm_bd {a b c : Nat} {xs ys : List Int} (hx : BdL a xs) (hy : BdL b ys) (hl : xs.length ≤ 2 ^ c) : BdL (a + b + c) (tm xs ys) := by
  refine BdL.trim ?_
  have key : ∀ i, (tmRaw xs ys).getD i 0 = 0 ∨ ((tmRaw xs ys).getD i 0).natAbs < xs.length * 2 ^ (a + b) := by
    unfold tmRaw
    refine lp_inv (fun n (acc : List Int) => ∀ i, acc.getD i 0 = 0 ∨ (acc.getD i 0).natAbs < n * 2 ^ (a + b)) (fun i => .inl (getD_replicate _ _)) xs.length fun j acc hj hacc => ?_
    unfold tmRow
    have in1 : ∀ i, ((lp (tmIn (xs.getD j 0) ys j) ys.length acc).getD i 0 = acc.getD i 0) ∨ (((lp (tmIn (xs.getD j 0) ys j) ys.length acc).getD i 0).natAbs < (acc.getD i 0).natAbs + 2 ^ (a + b)) := by
      have in2 : ∀ n, ∀ i, (i < j + n → ((lp (tmIn (xs.getD j 0) ys j) n acc).getD i 0 = acc.getD i 0) ∨ (((lp (tmIn (xs.getD j 0) ys j) n acc).getD i 0).natAbs < (acc.getD i 0).natAbs + 2 ^ (a + b))) ∧
          (j + n ≤ i → (lp (tmIn (xs.getD j 0) ys j) n acc).getD i 0 = acc.getD i 0) := by
        intro n
        induction n with
        | zero => exact fun i => ⟨fun _ => .inl rfl, fun _ => rfl⟩
        | succ n ih =>
          intro i
          show (_ → (tmIn _ _ _ _ _).getD i 0 = _ ∨ ((tmIn _ _ _ _ _).getD i 0).natAbs < _) ∧ (_ → (tmIn _ _ _ _ _).getD i 0 = _)
          rw [tmIn_getD]
          by_cases hi : j + n = i
          · subst hi
            rw [if_pos rfl]
            refine ⟨fun _ => ?_, fun h => by omega⟩
            have e := (ih (j + n)).2 (Nat.le_refl _)
            by_cases hlt : j + n < (lp (tmIn (xs.getD j 0) ys j) n acc).length
            · rw [if_pos hlt, e]
              right
              have h1 := (hx.at j).mul (hy.at n)
              unfold Bd at h1
              have h2 := Int.natAbs_add_le (acc.getD (j + n) 0) (xs.getD j 0 * ys.getD n 0)
              omega
            · rw [if_neg hlt]
              left
              rw [← e, List.getD_eq_getElem?_getD, List.getElem?_eq_none (by omega)]; rfl
          · rw [if_neg hi]
            exact ⟨fun h => (ih i).1 (by omega), fun h => (ih i).2 (by omega)⟩
      intro i
      by_cases h : i < j + ys.length
      · exact (in2 ys.length i).1 h
      · exact .inl ((in2 ys.length i).2 (by omega))
    intro i
    have hpos : 0 < 2 ^ (a + b) := Nat.two_pow_pos _
    have hsucc : (j + 1) * 2 ^ (a + b) = j * 2 ^ (a + b) + 2 ^ (a + b) := Nat.succ_mul _ _
    rcases in1 i with e | h
    · rw [e]
      rcases hacc i with h0 | h0
      · exact .inl h0
      · exact .inr (by omega)
    · right
      rcases hacc i with h0 | h0
      · rw [h0] at h
        simp only [Int.natAbs_zero] at h
        have : 0 ≤ j * 2 ^ (a + b) := Nat.zero_le _
        omega
      · omega
  intro x hx'
  obtain ⟨i, hi, rfl⟩ := List.getElem_of_mem hx'
  have e : (tmRaw xs ys)[i] = (tmRaw xs ys).getD i 0 := by
    rw [List.getD_eq_getElem?_getD, List.getElem?_eq_getElem hi]; rfl
  rw [e]
  rcases key i with h | h
  · rw [h]; exact Nat.two_pow_pos _
  · refine Nat.lt_of_lt_of_le h ?_
    rw [Nat.pow_add 2 (a + b) c, Nat.mul_comm]
    exact Nat.mul_le_mul_left _ hl
/-- the topmost place stays nought -/
theorem tmRaw_top (xs ys : List Int) (i : Nat) (h : xs.length + ys.length ≤ i + 1) : (tmRaw xs ys).getD i 0 = 0 := by
  unfold tmRaw
  refine lp_inv (fun _ (acc : List Int) => acc.getD i 0 = 0) (getD_replicate _ _) xs.length fun j acc hj hacc => ?_
  unfold tmRow
  refine lp_inv (fun _ (a : List Int) => a.getD i 0 = 0) hacc ys.length fun k a hk ha => ?_
  rw [tmIn_getD, if_neg (by omega)]
  exact ha
theorem trim_len_le {xs : List Int} {n : Nat} (h : ∀ i, n ≤ i → xs.getD i 0 = 0) : (trim xs).length ≤ n := by
  obtain ⟨k, e, c | ⟨ys, y, c, hy⟩⟩ := trim_cases xs
  · rw [c]; exact Nat.zero_le _
  · refine Nat.le_of_not_lt fun hlt => hy ?_
    have hz := h ys.length (by rw [c] at hlt; simp at hlt; omega)
    rw [e, c, List.getD_eq_getElem?_getD] at hz
    simpa using hz
theorem tm_len (xs ys : List Int) : (tm xs ys).length ≤ xs.length + ys.length - 1 := trim_len_le fun i hi => tmRaw_top xs ys i (by omega)
theorem tm_nil_right (xs : List Int) : tm xs [] = [] := by
  have h := trim_len_le (xs := tmRaw xs []) (n := 0) fun i _ => by
    unfold tmRaw
    refine lp_inv (fun _ (acc : List Int) => acc.getD i 0 = 0) (getD_replicate _ _) xs.length fun j acc hj hacc => hacc
  exact List.length_eq_zero_iff.mp (Nat.le_zero.mp h)
theorem tm_tr (xs ys : List Int) : Tr (tm xs ys) := tr_trim _

/-! ### powers -/
def pw (xs : List Int) : Nat → List Int
  | 0 => [1]
  | n + 1 => tm (pw xs n) xs
theorem pw_len (xs : List Int) : ∀ n : Nat, (pw xs n).length ≤ 1 + n * (xs.length - 1)
  | 0 => by simp [pw]
  | n + 1 => by
    have ih := pw_len xs n
    show (tm (pw xs n) xs).length ≤ _
    cases xs with
    | nil => rw [tm_nil_right]; exact Nat.zero_le _
    | cons x r =>
      have h := tm_len (pw (x :: r) n) (x :: r)
      simp only [List.length_cons, Nat.add_sub_cancel] at h ih ⊢
      rw [Nat.succ_mul]
      omega
theorem pw_bd {b c : Nat} {xs : List Int} (hx : BdL b xs) : ∀ n : Nat, (∀ i, i < n → (pw xs i).length ≤ 2 ^ c) → BdL (1 + n * (b + c)) (pw xs n)
  | 0, _ => fun x hx => by
    have : x = 1 := by simpa [pw] using hx
    subst this
    rw [Nat.zero_mul]; decide
  | n + 1, h => by
    have ih := pw_bd hx n fun i hi => h i (Nat.lt_succ_of_lt hi)
    refine (tm_bd ih hx (h n (Nat.lt_succ_self n))).mono ?_
    rw [Nat.succ_mul]; omega
end Pa

namespace Pa
open PySem PySem.Spec PyProof.Rows L2

abbrev veT : List Value := [.type "ValueError", .type "Exception", .type "BaseException", .type "object"]
/-- what the top says of an error's class -/
structure Err (K : PySem.W.Frag) (mg : Str → Option Value) (x : Str) (C : Addr) : Prop where
  g : mg x = some (.ref C)
  x : PySem.W.excIn K C veT "ValueError.__new__" = true
  k : PySem.W.keepIn K (.ref C) = true
  b : PySem.W.subIn K (.ref C) (.type "BaseException") = some true
  t : PySem.W.typeIn K (.ref C) = some (.type "type")
  h : PySem.W.hasDictIn K C = true
  i : ExcC K C
  v : PySem.W.kitOne K (.ref C) (.type "ValueError") = some true

theorem kit_ve {K : PySem.W.Frag} {C : Addr} (h : PySem.W.subIn K (.ref C) (.type "ValueError") = some true) : PySem.W.kitOne K (.ref C) (.type "ValueError") = some true := by
  have m : PySem.W.kitMeta "ValueError" = true := by decide +kernel
  unfold PySem.W.kitOne
  rw [if_neg (by intro z; exact nomatch (beq_iff_eq.mp z))]
  show (if PySem.W.kitMeta "ValueError" = true then PySem.W.subIn K (.ref C) (.type "ValueError") else none) = some true
  rw [if_pos m]
  exact h
/-! ### an exception's way -/
/-- a wish of an exception, over the owned objects -/
def NX (Wx : WX) (cls : Value) (d : Option Addr) (σ : St) (H0 : Hp) (fs : Fs) : Prop := ∀ H, Kn H0 fs H → Wx cls d σ H
def NE (E : XK) (cls : Value) (d : Option Addr) (H0 : Hp) (fs : Fs) : Prop := ∀ H, Kn H0 fs H → E cls d H
/-- a call that raises for certain -/
def WCX (sp : Sp) (vs : List V) (H0 : Hp) (fs : Fs) (Ψ : Value → Option Addr → Fs → Prop) : Prop := ∀ H, Kn H0 fs H → ∀ (Q : VK) (E : XK), (∀ cls d f' H', Kn H0 f' H' → Ψ cls d f' → E cls d H') → sp vs H Q E
/-- one that may raise -/
def WCB (sp : Sp) (vs : List V) (H0 : Hp) (fs : Fs) (Φ : CV) (Ψ : Value → Option Addr → Fs → Prop) : Prop := ∀ H, Kn H0 fs H → ∀ (Q : VK) (E : XK), (∀ v fs' H', Kn H0 fs' H' → Φ v fs' → Q v H') → (∀ cls d f' H', Kn H0 f' H' → Ψ cls d f' → E cls d H') → sp vs H Q E
section
variable {σ : St} {H0 : Hp} {fs : Fs} {Φ : CV} {tr : TA} {Wx : WX} {K : PySem.W.Frag} {c cls : Value} {d : Option Addr} {D : Ends} {ts : Addr → Value → Option Addr → TS} {Wout : WX} {i : Nat}
theorem W.callX {sp : Sp} (h : WA tr σ H0 fs fun vs f1 => WCX sp vs H0 f1 fun cls d f2 => NX Wx cls d σ H0 f2) : W (tCallS sp (WE Wx) tr) σ H0 fs Φ := fun H k Q _ =>
  h H k _ fun vs _ H1 k1 h1 => h1 H1 k1 Q _ fun cls d _ H2 k2 n => n H2 k2
theorem W.callB {sp : Sp} (h : WA tr σ H0 fs fun vs f1 => WCB sp vs H0 f1 Φ fun cls d f2 => NX Wx cls d σ H0 f2) : W (tCallS sp (WE Wx) tr) σ H0 fs Φ := fun H k Q cc =>
  h H k _ fun vs _ H1 k1 h1 => h1 H1 k1 Q _ cc fun cls d _ H2 k2 n => n H2 k2
theorem NX.only (hb : PySem.W.exmOne K cls c = some true) (h : ∀ a, N (ts a cls d D) σ H0 fs) : NX (wOnly K c ts Wout D) cls d σ H0 fs := fun H k => ⟨true, hb, fun _ a _ => h a H k, fun z => Bool.noConfusion z⟩
theorem NX.onlyF (hb : PySem.W.exmOne K cls c = some false) (h : NX Wout cls d σ H0 fs) : NX (wOnly K c ts Wout D) cls d σ H0 fs := fun H k => ⟨false, hb, fun z => Bool.noConfusion z, fun _ => h H k⟩
theorem NX.as (hb : PySem.W.exmOne K cls c = some true) (h : ∀ a, N (ts a cls d { nx := fun σ' H' => D.nx (σ'.set i none) H', rt := D.rt, bk := fun σ' H' => D.bk (σ'.set i none) H', ct := fun σ' H' => D.ct (σ'.set i none) H' }) (σ.set i (some (.ref a))) H0 fs) :
    NX (wAs K c i ts Wout D) cls d σ H0 fs := fun H k => ⟨true, hb, fun _ a _ => h a H k, fun z => Bool.noConfusion z⟩
theorem NX.many (hb : PySem.W.exmOne K cls c = some true) {r : List (Value × (Addr → Value → Option Addr → TS))} (h : ∀ a, N (ts a cls d D) σ H0 fs) : NX (wMany K Wout D ((c, ts) :: r)) cls d σ H0 fs := fun H k => ⟨true, hb, fun _ a _ => h a H k, fun z => Bool.noConfusion z⟩
theorem NX.manyF (hb : PySem.W.exmOne K cls c = some false) {r : List (Value × (Addr → Value → Option Addr → TS))} (h : NX (wMany K Wout D r) cls d σ H0 fs) : NX (wMany K Wout D ((c, ts) :: r)) cls d σ H0 fs := fun H k => ⟨false, hb, fun z => Bool.noConfusion z, fun _ => h H k⟩
end
/-- isinstance(e, T) of the error that the suite holds -/
def rIsV (K : PySem.W.Frag) (a : Addr) (cls : Value) (d : Option Addr) : List V → Hp → VK → Prop := fun xs H Q => ∃ D, cls = .ref D ∧ d = none ∧ ExcC K D ∧ rIsE K D a xs H Q
theorem call_isV {X : Cx} {a : Addr} {cls : Value} {d : Option Addr} {oe : Obj} {pn : List (Addr × Obj)} (hz : Zc cls d oe) (hf : ∃ vs, oe.data = .fields vs) : CallR (X.suite a ((a, oe) :: pn)) (.builtin "isinstance") (rIsV X.K a cls d) := by
  intro pins s σ H xs us Q I r h
  obtain ⟨D, e1, e2, C, h⟩ := h
  subst e1 e2
  exact call_isE C hz hf pins s σ H xs us Q I r h
theorem RC.isV {K : PySem.W.Frag} {H0 : Hp} {fs : Fs} {Φ : CV} {a D : Addr} {n : String} {b : Bool} (C : ExcC K D) (hk : PySem.W.kitOne K (.ref D) (.type n) = some b) (q : Φ (.bl b) fs) : RC (rIsV K a (.ref D) none) [.ref a, .ty n] H0 fs Φ := fun H k Q c =>
  ⟨D, rfl, rfl, C, .ty n, .type n, b, rfl, fun u r => r, hk, c _ fs H k q⟩
theorem call_isVK {X : Cx} {K : PySem.W.Frag} {a : Addr} {cls : Value} {d : Option Addr} {oe : Obj} {pn : List (Addr × Obj)} (hK : X.K = K) (hz : Zc cls d oe) (hf : ∃ vs, oe.data = .fields vs) : CallR (X.suite a ((a, oe) :: pn)) (.builtin "isinstance") (rIsV K a cls d) := by
  subst hK
  exact call_isV hz hf
section
variable {X : Cx} {K : PySem.W.Frag} {x n : Str} {c : Value} {i : Nat} {body suite : List Stmt} {b₀ : Stmt} {np pos pos' : Pos} {tb : WX → TS} {ts : Addr → Value → Option Addr → TS} {Wout : WX}
theorem ps_try_asK (hK : X.K = K) (hs : X.stack = X.env :: X.outer) (hf : X.env.frame = some X.env.locals) (hN : X.N.Nodup) (hi : X.N[i]? = some n) (hln : X.env.kindOf n = some .local) (hc : Names X x c) (tk : Takes X Wout)
    (hb : ∀ (W : WX) (pn : List (Addr × Obj)) (xe : Value → Shared → Prop), Takes (X.tr pn xe) W → PassesOwn (model X.prog X.w) X.A X.env xe → PSs (X.tr pn xe) body (tb W))
    (hsu : ∀ (a : Addr) (oe : Obj) (cls : Value) (d : Option Addr) (pn : List (Addr × Obj)), Zc cls d oe → (∃ vs, oe.data = .fields vs) → PSs (X.suite a ((a, oe) :: pn)) (b₀ :: suite) (ts a cls d)) :
    PS X (.Try body [.ExceptHandler (some (.Name x np)) (some n) (b₀ :: suite) pos'] [] [] pos) (fun D σ H => tb (wAs K c i ts Wout D) D σ H) := by
  subst hK
  exact ps_try_as hs hf hN hi hln hc tk hb hsu
theorem ps_try_onlyK (hK : X.K = K) (hs : X.stack = X.env :: X.outer) (hf : X.env.frame = some X.env.locals) (hc : Names X x c) (tk : Takes X Wout)
    (hb : ∀ (W : WX) (pn : List (Addr × Obj)) (xe : Value → Shared → Prop), Takes (X.tr pn xe) W → PassesOwn (model X.prog X.w) X.A X.env xe → PSs (X.tr pn xe) body (tb W))
    (hsu : ∀ (a : Addr) (oe : Obj) (cls : Value) (d : Option Addr) (pn : List (Addr × Obj)), Zc cls d oe → (∃ vs, oe.data = .fields vs) → PSs (X.suite a ((a, oe) :: pn)) (b₀ :: suite) (ts a cls d)) :
    PS X (.Try body [.ExceptHandler (some (.Name x np)) none (b₀ :: suite) pos'] [] [] pos) (fun D σ H => tb (wOnly K c ts Wout D) D σ H) := by
  subst hK
  exact ps_try_only hs hf hc tk hb hsu
theorem ps_try_manyK {h₀ : ExceptHandler} {hds : List ExceptHandler} {l : List (Value × (Addr → Value → Option Addr → TS))} (hK : X.K = K) (hs : X.stack = X.env :: X.outer) (hf : X.env.frame = some X.env.locals) (tk : Takes X Wout)
    (hb : ∀ (W : WX) (pn : List (Addr × Obj)) (xe : Value → Shared → Prop), Takes (X.tr pn xe) W → PassesOwn (model X.prog X.w) X.A X.env xe → PSs (X.tr pn xe) body (tb W))
    (hh : HdsOk X (h₀ :: hds) l) : PS X (.Try body (h₀ :: hds) [] [] pos) (fun D σ H => tb (wMany K Wout D l) D σ H) := by
  subst hK
  exact ps_try_many hs hf tk hb hh
end
/-- two promises of one def -/
theorem FnOk.both {P : Program} {w : World} {K : PySem.W.Frag} {mg : Str → Option Value} {base : Heap} {k k' : Nat} {f : Addr} {fd : FuncData} {ps : List Str} {sp1 sp2 : Sp}
    (F1 : FnOk P w K mg base CX0 k f fd ps sp1) (F2 : FnOk P w K mg base (L2.CX P w) k' f fd ps sp2) : FnOk P w K mg base (L2.CX P w) (max k k') f fd ps (fun vs H Q E => sp1 vs H Q E ∨ sp2 vs H Q E) :=
  ⟨fun vs H Q E h => h.elim (F1.len vs H Q E) (F2.len vs H Q E), fun A outer s H args us vs Q E hr he hb hv hs => by
    rcases hs with hs | hs
    · refine codeAny_mono ((F1.mono (Nat.le_max_left k k')).run A outer s H args us vs Q E hr he hb hv hs) fun r s' h => ?_
      cases r with
      | error e => exact False.elim h
      | ok fl => cases fl <;> exact h
    · exact (F2.mono (Nat.le_max_right k k')).run A outer s H args us vs Q E hr he hb hv hs⟩
/-- one that never raises, among those that may -/
theorem FnOk.up {P : Program} {w : World} {K : PySem.W.Frag} {mg : Str → Option Value} {base : Heap} {k : Nat} {f : Addr} {fd : FuncData} {ps : List Str} {sp1 : Sp}
    (F1 : FnOk P w K mg base CX0 k f fd ps sp1) : FnOk P w K mg base (L2.CX P w) k f fd ps sp1 :=
  ⟨F1.len, fun A outer s H args us vs Q E hr he hb hv hs => codeAny_mono (F1.run A outer s H args us vs Q E hr he hb hv hs) fun r s' h => by
    cases r with
    | error e => exact False.elim h
    | ok fl => cases fl <;> exact h⟩
/-- a block that begins with an if and is left in it -/
theorem S.never {D : Ends} {σ : St} {H0 : Hp} {fs : Fs} (h : False) : N (tNever D) σ H0 fs := h.elim
section
variable {P : Program} {w : World} {K : PySem.W.Frag} {mg : Str → Option Value} {base : Heap}
theorem passesX {N : List Str} {qual : Str} {scope : Scope} {f : Addr} {cd : Value} {A : Around} {outer : List Env} {s : Shared} {H : Hp} {E : XK} :
    PassesOwn (model P w) (cxOf (L2.CX P w) P w K mg base N qual scope f cd A outer s H E).A (cxOf (L2.CX P w) P w K mg base N qual scope f cd A outer s H E).env (cxOf (L2.CX P w) P w K mg base N qual scope f cd A outer s H E).xe :=
  passes_of (X := cxOf (L2.CX P w) P w K mg base N qual scope f cd A outer s H E) (K := fun e s' => L2.CX P w outer H s E e s') (E₁ := fun e' s'' => L2.CX P w outer H s E e' s'') rfl
end
end Pa

namespace Pa
open PySem PySem.Spec PyProof.Rows L2

/-! ### data -/
def zD (ns : List Int) : PyData := .list (ns.map .int)
theorem zD_layAll : ∀ ns : List Int, PyData.canLayAll0 (ns.map PyData.int) = true
  | [] => rfl
  | n :: r => by
    show (PyData.canLay0 (.int n) && PyData.canLayAll0 (r.map PyData.int)) = true
    rw [zD_layAll r]; rfl
theorem zD_depthAll : ∀ ns : List Int, PyData.depthAll (ns.map PyData.int) = 0
  | [] => rfl
  | n :: r => by
    show max (PyData.depth (.int n)) (PyData.depthAll (r.map PyData.int)) = 0
    rw [zD_depthAll r]; rfl
theorem zD_lay (ns : List Int) : PyData.canLay0 (zD ns) = true := by
  show PyData.canLayAll0 (ns.map PyData.int) = true
  exact zD_layAll ns
theorem zD_depth (ns : List Int) : PyData.depth (zD ns) = 1 := by
  show PyData.depthAll (ns.map PyData.int) + 1 = 1
  rw [zD_depthAll]
theorem zD_shaped (ns : List Int) : SeqAt.shaped (zD ns) = true := by
  unfold SeqAt.shaped
  rw [zD_lay, zD_depth]; rfl
theorem zD_eqvAll : ∀ xs ys : List Int, PyData.eqvAll (xs.map PyData.int) (ys.map PyData.int) = decide (xs = ys)
  | [], [] => rfl
  | [], y :: ys => rfl
  | x :: xs, [] => rfl
  | x :: xs, y :: ys => by
    show (PyData.eqv (.int x) (.int y) && PyData.eqvAll (xs.map PyData.int) (ys.map PyData.int)) = _
    rw [zD_eqvAll xs ys]
    show ((x == y) && decide (xs = ys)) = _
    rw [Bool.eq_iff_iff]
    simp
theorem zD_eqv (xs ys : List Int) : PyData.eqv (zD xs) (zD ys) = decide (xs = ys) := zD_eqvAll xs ys
theorem zD_dp {K : PySem.W.Frag} {H : Hp} : ∀ ns : List Int, DpAll K H (zV ns) (ns.map PyData.int)
  | [] => .nil
  | n :: r => .cons (.int n) (zD_dp r)
/-- what stands at a value, as data -/
def Rd (K : PySem.W.Frag) (H0 : Hp) (fs : Fs) (v : V) (d : PyData) : Prop := ∀ H, Kn H0 fs H → Dp K H v d
def RdA (K : PySem.W.Frag) (H0 : Hp) (fs : Fs) (vs : List V) (ds : List PyData) : Prop := ∀ H, Kn H0 fs H → DpAll K H vs ds
section
variable {K : PySem.W.Frag} {H0 : Hp} {fs : Fs} {Φ : CV} {x y : V}
theorem Rd.z {a : Addr} {ns : List Int} (h : Rl K H0 fs a (zV ns)) : Rd K H0 fs (.ref a) (zD ns) := fun H k => .lst (h H k) (zD_dp ns)
theorem Rd.int {i : Int} : Rd K H0 fs (.int i) (.int i) := fun _ _ => .int i
theorem Rd.lst {a : Addr} {vs : List V} {ds : List PyData} (h : Rl K H0 fs a vs) (hd : RdA K H0 fs vs ds) : Rd K H0 fs (.ref a) (.list ds) := fun H k => .lst (h H k) (hd H k)
theorem Rd.tup {a : Addr} {vs : List V} {ds : List PyData} (h : Rt K H0 fs a vs) (hd : RdA K H0 fs vs ds) : Rd K H0 fs (.ref a) (.tuple ds) := fun H k => .tup (h H k) (hd H k)
theorem RdA.nil : RdA K H0 fs [] [] := fun _ _ => .nil
theorem RdA.cons {v : V} {vs : List V} {d : PyData} {ds : List PyData} (h : Rd K H0 fs v d) (hr : RdA K H0 fs vs ds) : RdA K H0 fs (v :: vs) (d :: ds) := fun H k => .cons (h H k) (hr H k)
theorem RW.eqD {d e : PyData} (h : Rd K H0 fs x d) (h2 : Rd K H0 fs y e) (s1 : SeqAt.shaped d = true) (s2 : SeqAt.shaped e = true) (q : Φ (.bl (PyData.eqv d e)) fs) : RW (rEqD K) x y H0 fs Φ := fun H k _ c => ⟨d, e, h H k, h2 H k, s1, s2, c _ fs H k q⟩
theorem RW.neD {d e : PyData} (h : Rd K H0 fs x d) (h2 : Rd K H0 fs y e) (s1 : SeqAt.shaped d = true) (s2 : SeqAt.shaped e = true) (q : Φ (.bl (!PyData.eqv d e)) fs) : RW (rNeD K) x y H0 fs Φ := fun H k _ c => ⟨d, e, h H k, h2 H k, s1, s2, c _ fs H k q⟩
theorem RW.eqZ {a b : Addr} {xs ys : List Int} (h : Rl K H0 fs a (zV xs)) (h2 : Rl K H0 fs b (zV ys)) (q : Φ (.bl (decide (xs = ys))) fs) : RW (rEqD K) (.ref a) (.ref b) H0 fs Φ :=
  RW.eqD (Rd.z h) (Rd.z h2) (zD_shaped _) (zD_shaped _) (by rw [zD_eqv]; exact q)
theorem RW.neZ {a b : Addr} {xs ys : List Int} (h : Rl K H0 fs a (zV xs)) (h2 : Rl K H0 fs b (zV ys)) (q : Φ (.bl (!decide (xs = ys))) fs) : RW (rNeD K) (.ref a) (.ref b) H0 fs Φ :=
  RW.neD (Rd.z h) (Rd.z h2) (zD_shaped _) (zD_shaped _) (by rw [zD_eqv]; exact q)
end
/-- x in a written tuple -/
def rInT (K : PySem.W.Frag) : R2 := fun x y H Q => ∃ d ds, Dp K H x d ∧ Dp K H y (.tuple ds) ∧ SeqAt.shaped d = true ∧ SeqAt.shaped (.tuple ds) = true ∧ Q (.bl (ds.any fun z => PyData.eqv z d)) H
theorem op_inT {X : Cx} {k : Nat} (hr : Room k X.A) : OpR X (compareOp .In) (rInT X.K) := by
  intro pins s σ H x y v u Q I rx ry h
  obtain ⟨d, ds, hd, he, sd, se, q⟩ := h
  obtain ⟨as, r1⟩ := Dp.reads I d x v hd rx
  obtain ⟨bs, r2⟩ := Dp.reads I (.tuple ds) y u he ry
  exact SeqAt.in_tuple_reads r2 r1 (SeqAt.canLay_of_shaped se) (SeqAt.canLay_of_shaped sd) (room_in_shaped sd (by have := hr.un; omega)) ⟨.bl _, H, I, rfl, q⟩
theorem op_inDr {X : Cx} {k : Nat} (hr : Room k X.A) : OpR X (compareOp .In) (rInD X.K) := op_inD (by have := hr.un; omega)
theorem op_notInDr {X : Cx} {k : Nat} (hr : Room k X.A) : OpR X (compareOp .NotIn) (rNotInD X.K) := op_notInD (by have := hr.un; omega)
section
variable {K : PySem.W.Frag} {H0 : Hp} {fs : Fs} {Φ : CV} {x y : V}
theorem RW.inT {d : PyData} {ds : List PyData} (h : Rd K H0 fs x d) (h2 : Rd K H0 fs y (.tuple ds)) (s1 : SeqAt.shaped d = true) (s2 : SeqAt.shaped (.tuple ds) = true) (q : Φ (.bl (ds.any fun z => PyData.eqv z d)) fs) : RW (rInT K) x y H0 fs Φ :=
  fun H k _ c => ⟨d, ds, h H k, h2 H k, s1, s2, c _ fs H k q⟩
theorem RW.inD {d : PyData} {ds : List PyData} (h : Rd K H0 fs x d) (h2 : Rd K H0 fs y (.list ds)) (s1 : SeqAt.shaped d = true) (s2 : SeqAt.shaped (.list ds) = true) (q : Φ (.bl (ds.any fun z => PyData.eqv z d)) fs) : RW (rInD K) x y H0 fs Φ :=
  fun H k _ c => ⟨d, ds, h H k, h2 H k, s1, s2, c _ fs H k q⟩
theorem RW.notInD {d : PyData} {ds : List PyData} (h : Rd K H0 fs x d) (h2 : Rd K H0 fs y (.list ds)) (s1 : SeqAt.shaped d = true) (s2 : SeqAt.shaped (.list ds) = true) (q : Φ (.bl (!ds.any fun z => PyData.eqv z d)) fs) : RW (rNotInD K) x y H0 fs Φ :=
  fun H k _ c => ⟨d, ds, h H k, h2 H k, s1, s2, c _ fs H k q⟩
/-- written lists of ints -/
theorem W.lst0 {σ : St} (h : ∀ p, Φ (.ref p) ((p, .lst (zV [])) :: fs)) : W (tLst tNil) σ H0 fs Φ := W.lst (WA.nil ⟨by simp, h⟩)
theorem W.lst1 {σ : St} {ta : TE} (h : W ta σ H0 fs fun x f1 => ∃ a, x = .int a ∧ ∀ p, Φ (.ref p) ((p, .lst (zV [a])) :: f1)) : W (tLst (tCons ta tNil)) σ H0 fs Φ := fun H k Q c =>
  h H k _ fun x f1 H1 k1 ⟨a, e, q⟩ => by
    subst e
    exact ⟨sz_le (by simp), fun p hp => c _ _ _ (k1.new hp) (q p)⟩
end

/-! ### for x in a list or a tuple -/
def iSeq (K : PySem.W.Frag) (tl : TE) : TI := fun σ H R => iList K tl σ H R ∨ iTup K tl σ H R
theorem pi_seq {X : Cx} {tg l : Expr} {tl : TE} (hl : PE X l tl) : PI X tg l (iSeq X.K tl) :=
  ⟨fun pins s σ H R I h => h.elim (fun h => (pi_list hl).run pins s σ H R I h) fun h => (pi_tup hl).run pins s σ H R I h⟩
section
variable {σ : St} {H0 : Hp} {fs : Fs} {te : TE} {D : Ends} {ts : TS} {K : PySem.W.Frag}
theorem S.forQ {a : Addr} {xs : List V} {g : TG} (hq : SqL K H0 a xs ∨ SqT K H0 a xs) (I : Nat → St → Fs → Prop)
    (h : ∀ Φ : CV, Φ (.ref a) fs → W te σ H0 fs Φ) (h0 : I 0 σ fs)
    (hs : ∀ (i : Nat) x σ' f', xs[i]? = some x → I i σ' f' → ∀ H, Kn H0 f' H → g x σ' H fun σ2 H2 => ts { D with nx := Lp H0 I (i + 1), ct := Lp H0 I (i + 1), bk := D.nx } σ2 H2)
    (hd : ∀ σ' f', I xs.length σ' f' → N D.nx σ' H0 f') : N (tFor (iSeq K te) g ts D) σ H0 fs := fun H k => by
  rcases hq with hq | hq
  · refine .inl (h (fun v f1 => v = .ref a ∧ f1 = fs) ⟨rfl, rfl⟩ H k _ fun v f1 H1 k1 ⟨e, ef⟩ => ?_)
    subst ef
    refine ⟨a, e, ⟨xs, k1.same.seq hq⟩, for_list (K := K) (a := a) (xs := xs) (Lp H0 I) ⟨f1, k1, h0⟩ (fun i σ' H' _ p => ?_) (fun i x σ' H' hx p => ?_) (fun σ' H' p => ?_)⟩
    · obtain ⟨f', k', p⟩ := p.ex
      exact k'.same.seq hq
    · obtain ⟨f', k', p⟩ := p.ex
      exact hs i x σ' f' hx p H' k'
    · obtain ⟨f', k', p⟩ := p.ex
      exact hd σ' f' p H' k'
  · have st : ∀ {H' : Hp}, Same H0 H' → SqT K H' a xs := fun {H'} s => by
      rcases hq with (hq | ⟨o, hq⟩) | hq
      · exact .inl (.inl (s _ _ hq))
      · exact .inl (.inr ⟨o, s _ _ hq⟩)
      · exact .inr hq
    refine .inr (h (fun v f1 => v = .ref a ∧ f1 = fs) ⟨rfl, rfl⟩ H k _ fun v f1 H1 k1 ⟨e, ef⟩ => ?_)
    subst ef
    refine ⟨a, e, ⟨xs, st k1.same⟩, for_tup (K := K) (a := a) (xs := xs) (Lp H0 I) ⟨f1, k1, h0⟩ (fun i σ' H' _ p => ?_) (fun i x σ' H' hx p => ?_) (fun σ' H' p => ?_)⟩
    · obtain ⟨f', k', p⟩ := p.ex
      exact st k'.same
    · obtain ⟨f', k', p⟩ := p.ex
      exact hs i x σ' f' hx p H' k'
    · obtain ⟨f', k', p⟩ := p.ex
      exact hd σ' f' p H' k'
theorem RC.listQ {p : Addr} {xs : List V} {Φ : CV} (h : SqL K H0 p xs ∨ SqT K H0 p xs) (q : ∀ l, Φ (.ref l) ((l, .lst xs) :: fs)) : RC (rListOf K) [.ref p] H0 fs Φ := by
  rcases h with h | h
  · exact RC.listL (Rl.sq h) q
  · refine RC.listT (fun H k => ?_) q
    have s := k.same
    rcases h with (h | ⟨o, h⟩) | h
    · exact .inl (.inl (s _ _ h))
    · exact .inl (.inr ⟨o, s _ _ h⟩)
    · exact .inr h
end
/-- things that are no whole number -/
def OddH (H : Hp) (v : V) : Prop := (∃ b, v = .bl b) ∨ v = .non ∨ (∃ s, v = .str s) ∨ (∃ p l, v = .ref p ∧ H p = some (.lst l)) ∨ ∃ p l, v = .ref p ∧ H p = some (.tup l)
theorem OddH.same {H H' : Hp} {v : V} (h : OddH H v) (s : Same H H') : OddH H' v := by
  rcases h with h | h | h | ⟨p, l, e, h⟩ | ⟨p, l, e, h⟩
  · exact .inl h
  · exact .inr (.inl h)
  · exact .inr (.inr (.inl h))
  · exact .inr (.inr (.inr (.inl ⟨p, l, e, s _ _ h⟩)))
  · exact .inr (.inr (.inr (.inr ⟨p, l, e, s _ _ h⟩)))
def OddF (fs : Fs) (v : V) : Prop := (∃ b, v = .bl b) ∨ v = .non ∨ (∃ s, v = .str s) ∨ (∃ p l, v = .ref p ∧ (p, HO.lst l) ∈ fs) ∨ ∃ p l, v = .ref p ∧ (p, HO.tup l) ∈ fs
theorem OddF.at {H0 H : Hp} {fs : Fs} {v : V} (h : OddF fs v) (k : Kn H0 fs H) : OddH H v := by
  rcases h with h | h | h | ⟨p, l, e, h⟩ | ⟨p, l, e, h⟩
  · exact .inl h
  · exact .inr (.inl h)
  · exact .inr (.inr (.inl h))
  · exact .inr (.inr (.inr (.inl ⟨p, l, e, k.get h⟩)))
  · exact .inr (.inr (.inr (.inr ⟨p, l, e, k.get h⟩)))
theorem OddF.mono {fs fs' : Fs} {v : V} (h : OddF fs v) (hs : ∀ x ∈ fs, x ∈ fs') : OddF fs' v := by
  rcases h with h | h | h | ⟨p, l, e, h⟩ | ⟨p, l, e, h⟩
  · exact .inl h
  · exact .inr (.inl h)
  · exact .inr (.inr (.inl h))
  · exact .inr (.inr (.inr (.inl ⟨p, l, e, hs _ h⟩)))
  · exact .inr (.inr (.inr (.inr ⟨p, l, e, hs _ h⟩)))
end Pa

namespace Pa
open PySem PySem.Spec PyProof.Rows L2

theorem Kn.front {H0 : Hp} : ∀ {fs : Fs} {H : Hp} {i : Nat} {x : Addr × HO}, Kn H0 fs H → fs[i]? = some x → Kn H0 (x :: fs.eraseIdx i) H
  | [], _, _, _, _, h => by simp at h
  | y :: fs, H, 0, x, k, h => by
    have e : y = x := Option.some.inj h
    subst e; exact k
  | y :: fs, H, i + 1, x, ⟨e, H1, s, n, k⟩, h => by
    have h' : fs[i]? = some x := by simpa using h
    have k' := Kn.front k h'
    have k2 : Kn H0 (y :: x :: fs.eraseIdx i) H := ⟨e, H1, s, n, k'⟩
    exact k2.swap

section
variable {σ : St} {H0 : Hp} {fs : Fs} {Φ : CV} {te tl : TE} {tt : TT} {K : PySem.W.Frag}
/-- over range(lo, n): the i-th item is g i -/
theorem W.lcR2z {ta : TA} {j : Nat} {vs : List Nat} {lo n : Int} (g : Nat → Int)
    (h : WA ta σ H0 fs fun us f1 => us = [.int lo, .int n] ∧ (n ≤ 100000 ∧ -100000 ≤ n ∧ lo ≤ 100000 ∧ 0 ≤ lo) ∧
      (∀ x, wipe ((wipe σ vs).set j (some x)) vs = wipe σ vs) ∧
      (∀ (i : Nat) (D : Addr) (acc : List V), lo + (i : Int) < n → W te ((wipe σ vs).set j (some (.int (lo + (i : Int))))) H0 ((D, .lst acc) :: f1) fun v f2 => v = .int (g i) ∧ List.Sublist ((D, .lst acc) :: f1) f2) ∧
      ∀ D, Φ (.ref D) ((D, .lst (zV ((List.range (n - lo).toNat).map g))) :: f1)) : W (tLc (iRng2 ta) (gName j) tYes te vs) σ H0 fs Φ := fun H k Q c =>
  h H k _ fun us f1 H1 k1 ⟨e, hn, hw, hs, hd⟩ => by
    refine ⟨lo, n, e, ⟨by omega, by omega, by omega, by omega⟩, fun D hD => ?_⟩
    refine lc_range (lo := lo) (n := (n - lo).toNat) (fun i H' => Kn H0 ((D, .lst (zV ((List.range i).map g))) :: f1) H') (k1.new hD) (fun i H' hi p => ?_) (fun H' p => c _ _ _ p (hd D))
    refine ⟨hw _, ?_⟩
    show te ((wipe σ vs).set j (some (.int (lo + (i : Int))))) H' _
    refine hs i D _ (by omega) H' p _ fun v f2 H2 k2 ⟨ev, sb⟩ => ?_
    subst ev
    have k3 := k2.sub sb
    refine ⟨_, k3.get (.head _), sz_lt (by rw [zV_length]; simp; omega), ?_⟩
    have k4 := k3.put (i := 0) (o' := .lst (zV ((List.range i).map g) ++ [.int (g i)])) rfl
    show Kn H0 ((D, .lst (zV ((List.range (i + 1)).map g))) :: f1) _
    rw [List.range_succ, List.map_append, ← zV_app]
    exact k4
/-- over a list, with tests, items that may be made anew -/
theorem W.lcG {a : Addr} {xs : List V} {j : Nat} {vs : List Nat} (I : Nat → List V → Fs → Prop)
    (h : W tl σ H0 fs fun v f1 => v = .ref a ∧ Rl K H0 f1 a xs ∧ xs.length ≤ 100000 ∧ I 0 [] f1)
    (hl : ∀ i acc f, I i acc f → Rl K H0 f a xs)
    (hw : ∀ x, wipe ((wipe σ vs).set j (some x)) vs = wipe σ vs)
    (hs : ∀ (i : Nat) (x : V) (D : Addr) (acc : List V) (f : Fs), xs[i]? = some x → I i acc f →
      WT tt ((wipe σ vs).set j (some x)) H0 ((D, .lst acc) :: f) fun b f2 =>
        (b = true → W te ((wipe σ vs).set j (some x)) H0 f2 fun v f3 => ∃ m, f3[m]? = some (D, .lst acc) ∧ I (i + 1) (acc ++ [v]) (f3.eraseIdx m)) ∧
        (b = false → ∃ m, f2[m]? = some (D, .lst acc) ∧ I (i + 1) acc (f2.eraseIdx m)))
    (hd : ∀ D acc f, I xs.length acc f → Φ (.ref D) ((D, .lst acc) :: f)) : W (tLc (iList K tl) (gName j) tt te vs) σ H0 fs Φ := fun H k Q c =>
  h H k _ fun v f1 H1 k1 ⟨e, hr, hn, h0⟩ => by
    refine ⟨a, e, ⟨_, hr H1 k1⟩, fun D hD => ?_⟩
    refine lc_list (K := K) (a := a) (xs := xs) (fun i H' => ∃ acc f, Kn H0 ((D, .lst acc) :: f) H' ∧ I i acc f ∧ acc.length ≤ i) ⟨[], f1, k1.new hD, h0, Nat.le_refl _⟩ (fun i H' _ ⟨acc, f, p, hi, _⟩ => hl i acc f hi H' p.drop) (fun i x H' hx ⟨acc, f, p, hi, hlen⟩ => ?_) (fun H' ⟨acc, f, p, hi, _⟩ => c _ _ _ p (hd D acc f hi))
    obtain ⟨hlt, _⟩ := List.getElem?_eq_some_iff.mp hx
    refine ⟨hw _, ?_⟩
    show tt ((wipe σ vs).set j (some x)) H' _
    refine hs i x D acc f hx hi H' p _ fun b f2 H2 k2 ⟨ht, hf⟩ => ?_
    cases b with
    | true =>
      show te _ _ _
      refine ht rfl H2 k2 _ fun v f3 H3 k3 ⟨m, hm, hI⟩ => ?_
      have k4 := k3.front hm
      refine ⟨acc, k4.get (.head _), sz_lt (by omega), acc ++ [v], f3.eraseIdx m, k4.put (i := 0) rfl, hI, by simp; omega⟩
    | false =>
      obtain ⟨m, hm, hI⟩ := hf rfl
      exact ⟨acc, _, k2.front hm, hI, by omega⟩
/-- .. over a range -/
theorem W.lcRG {ta : TA} {n : Int} {j : Nat} {vs : List Nat} (I : Nat → List V → Fs → Prop)
    (h : WA ta σ H0 fs fun us f1 => us = [.int n] ∧ (n ≤ 100000 ∧ -100000 ≤ n) ∧ I 0 [] f1)
    (hw : ∀ x, wipe ((wipe σ vs).set j (some x)) vs = wipe σ vs)
    (hs : ∀ (i : Nat) (D : Addr) (acc : List V) (f : Fs), (i : Int) < n → I i acc f →
      WT tt ((wipe σ vs).set j (some (.int (i : Int)))) H0 ((D, .lst acc) :: f) fun b f2 =>
        (b = true → W te ((wipe σ vs).set j (some (.int (i : Int)))) H0 f2 fun v f3 => ∃ m, f3[m]? = some (D, .lst acc) ∧ I (i + 1) (acc ++ [v]) (f3.eraseIdx m)) ∧
        (b = false → ∃ m, f2[m]? = some (D, .lst acc) ∧ I (i + 1) acc (f2.eraseIdx m)))
    (hd : ∀ D acc f, I n.toNat acc f → Φ (.ref D) ((D, .lst acc) :: f)) : W (tLc (iRng1 ta) (gName j) tt te vs) σ H0 fs Φ := fun H k Q c =>
  h H k _ fun us f1 H1 k1 ⟨e, hn, h0⟩ => by
    refine ⟨n, e, by omega, by omega, fun D hD => ?_⟩
    refine lc_range (lo := 0) (n := n.toNat) (fun i H' => ∃ acc f, Kn H0 ((D, .lst acc) :: f) H' ∧ I i acc f ∧ acc.length ≤ i) ⟨[], f1, k1.new hD, h0, Nat.le_refl _⟩ (fun i H' hlt ⟨acc, f, p, hi, hlen⟩ => ?_) (fun H' ⟨acc, f, p, hi, _⟩ => c _ _ _ p (hd D acc f hi))
    have e0 : (0 : Int) + (i : Int) = (i : Int) := Int.zero_add _
    refine ⟨hw _, ?_⟩
    show tt ((wipe σ vs).set j (some (.int ((0 : Int) + (i : Int))))) H' _
    rw [e0]
    refine hs i D acc f (by omega) hi H' p _ fun b f2 H2 k2 ⟨ht, hf⟩ => ?_
    cases b with
    | true =>
      show te _ _ _
      refine ht rfl H2 k2 _ fun v f3 H3 k3 ⟨m, hm, hI⟩ => ?_
      have k4 := k3.front hm
      refine ⟨acc, k4.get (.head _), sz_lt (by omega), acc ++ [v], f3.eraseIdx m, k4.put (i := 0) rfl, hI, by simp; omega⟩
    | false =>
      obtain ⟨m, hm, hI⟩ := hf rfl
      exact ⟨acc, _, k2.front hm, hI, by omega⟩
/-- whole numbers that pass a test -/
theorem W.lcZf {ns : List Int} {j : Nat} {vs : List Nat} (p : Int → Bool)
    (h : W tl σ H0 fs fun v f1 => ∃ a, v = .ref a ∧ Rl K H0 f1 a (zV ns) ∧ ns.length ≤ 100000 ∧
      (∀ x, wipe ((wipe σ vs).set j (some x)) vs = wipe σ vs) ∧
      (∀ (x : Int) (D : Addr) (acc : List V), x ∈ ns → WT tt ((wipe σ vs).set j (some (.int x))) H0 ((D, .lst acc) :: f1) fun b f2 => b = p x ∧ f2 = (D, .lst acc) :: f1 ∧ (b = true → W te ((wipe σ vs).set j (some (.int x))) H0 f2 fun v f3 => v = .int x ∧ f3 = f2)) ∧
      ∀ D, Φ (.ref D) ((D, .lst (zV (ns.filter p))) :: f1)) : W (tLc (iList K tl) (gName j) tt te vs) σ H0 fs Φ := fun H k Q c =>
  h H k _ fun v f1 H1 k1 ⟨a, e, hr, hn, hw, hs, hd⟩ => by
    refine ⟨a, e, ⟨_, hr H1 k1⟩, fun D hD => ?_⟩
    refine lc_list (K := K) (a := a) (xs := zV ns) (fun i H' => Kn H0 ((D, .lst (zV ((ns.take i).filter p))) :: f1) H') (k1.new hD) (fun i H' _ p => hr H' p.drop) (fun i x H' hi q => ?_) (fun H' q => ?_)
    · obtain ⟨hl, e1⟩ := List.getElem?_eq_some_iff.mp hi
      rw [zV_length] at hl
      have e2 : x = .int ns[i] := by
        have := zV_get (ns := ns) (i := i) (x := ns[i]) (List.getElem?_eq_getElem hl)
        rw [hi] at this
        exact Option.some.inj this
      subst e2
      refine ⟨hw _, ?_⟩
      show tt ((wipe σ vs).set j (some (.int ns[i]))) H' _
      have hlen : ((ns.take i).filter p).length ≤ i := Nat.le_trans (List.length_filter_le _ _) (by rw [List.length_take]; omega)
      refine hs ns[i] D _ (List.getElem_mem hl) H' q _ fun b f2 H2 k2 ⟨eb, ef, ht⟩ => ?_
      subst eb ef
      have et : ns.take (i + 1) = ns.take i ++ [ns[i]] := by
        rw [List.take_add_one, List.getElem?_eq_getElem hl]; rfl
      cases hb : p ns[i] with
      | true =>
        show te _ _ _
        refine ht hb H2 k2 _ fun v f3 H3 k3 ⟨ev, ef⟩ => ?_
        subst ev ef
        refine ⟨_, k3.get (.head _), sz_lt (by rw [zV_length]; omega), ?_⟩
        have k4 := k3.put (i := 0) (o' := .lst (zV ((ns.take i).filter p) ++ [.int ns[i]])) rfl
        rw [et, List.filter_append, List.filter_cons_of_pos hb, ← zV_app]
        exact k4
      | false =>
        show Kn H0 ((D, .lst (zV ((ns.take (i + 1)).filter p))) :: f1) H2
        rw [et, List.filter_append, List.filter_cons_of_neg (by rw [hb]; exact Bool.false_ne_true), List.filter_nil, List.append_nil]
        exact k2
    · rw [zV_length, List.take_length] at q
      exact c _ _ _ q (hd D)
end
end Pa
namespace Pa
open PySem PySem.Spec PyProof.Rows L2
theorem ix_listK {X : Cx} {K : PySem.W.Frag} (h : X.K = K) : IxR X (rIxL K) := by subst h; exact ix_list
theorem ix_tupK {X : Cx} {K : PySem.W.Frag} (h : X.K = K) : IxR X (rIxT K) := by subst h; exact ix_tup
theorem N.swap {e : St → Hp → Prop} {σ : St} {H0 : Hp} {x y : Addr × HO} {fs : Fs} (h : N e σ H0 (y :: x :: fs)) : N e σ H0 (x :: y :: fs) := fun H k => h H k.swap
/-! ### is None -/
def rIsNon : R2 := fun x y H Q => y = .non ∧ Q (.bl (decide (x = .non))) H
def rNotNon : R2 := fun x y H Q => y = .non ∧ Q (.bl (!decide (x = .non))) H
theorem op_isNo {X : Cx} : OpR X (compareOp .Is) rIsNon := op_isN
theorem op_notNo {X : Cx} : OpR X (compareOp .IsNot) rNotNon := op_notN
section
variable {H0 : Hp} {fs : Fs} {Φ : CV} {p : Addr}
theorem RW.isNoR (q : Φ (.bl false) fs) : RW rIsNon (.ref p) .non H0 fs Φ := fun H k _ c => ⟨rfl, c _ fs H k q⟩
theorem RW.isNoN (q : Φ (.bl true) fs) : RW rIsNon .non .non H0 fs Φ := fun H k _ c => ⟨rfl, c _ fs H k q⟩
theorem RW.notNoR (q : Φ (.bl true) fs) : RW rNotNon (.ref p) .non H0 fs Φ := fun H k _ c => ⟨rfl, c _ fs H k q⟩
theorem RW.notNoN (q : Φ (.bl false) fs) : RW rNotNon .non .non H0 fs Φ := fun H k _ c => ⟨rfl, c _ fs H k q⟩
end
end Pa

namespace Pa
open PySem PySem.Spec PyProof.Rows L2
/-! ### rows in a list -/
def zDD (rows : List (List Int)) : PyData := .list (rows.map zD)
theorem zDD_layAll : ∀ rows : List (List Int), PyData.canLayAll0 (rows.map zD) = true
  | [] => rfl
  | n :: r => by
    show (PyData.canLay0 (zD n) && PyData.canLayAll0 (r.map zD)) = true
    rw [zDD_layAll r, zD_lay]; rfl
theorem zDD_depthAll : ∀ rows : List (List Int), PyData.depthAll (rows.map zD) = if rows = [] then 0 else 1
  | [] => rfl
  | n :: r => by
    show max (PyData.depth (zD n)) (PyData.depthAll (r.map zD)) = _
    rw [zDD_depthAll r, zD_depth, if_neg (List.cons_ne_nil _ _)]
    split <;> rfl
theorem zDD_shaped (rows : List (List Int)) : SeqAt.shaped (zDD rows) = true := by
  unfold SeqAt.shaped
  have h1 : PyData.canLay0 (zDD rows) = true := zDD_layAll rows
  have h2 : PyData.depth (zDD rows) = (if rows = [] then 0 else 1) + 1 := by
    show PyData.depthAll (rows.map zD) + 1 = _
    rw [zDD_depthAll]
  rw [h1, h2]
  split <;> rfl
theorem zDD_eqvAll : ∀ xs ys : List (List Int), PyData.eqvAll (xs.map zD) (ys.map zD) = decide (xs = ys)
  | [], [] => rfl
  | [], y :: ys => rfl
  | x :: xs, [] => rfl
  | x :: xs, y :: ys => by
    show (PyData.eqv (zD x) (zD y) && PyData.eqvAll (xs.map zD) (ys.map zD)) = _
    rw [zDD_eqvAll xs ys, zD_eqv, Bool.eq_iff_iff]
    simp
theorem zDD_eqv (xs ys : List (List Int)) : PyData.eqv (zDD xs) (zDD ys) = decide (xs = ys) := zDD_eqvAll xs ys
theorem cListOfK {X : Cx} {K : PySem.W.Frag} (h : X.K = K) : CallR X (.type "list") (rListOf K) := by subst h; exact cListOf
section
variable {σ : St} {H0 : Hp} {fs : Fs} {Φ : CV} {te tl : TE} {tt : TT} {K : PySem.W.Frag}
theorem WT.yes {Φ : Bool → Fs → Prop} (h : Φ true fs) : WT tYes σ H0 fs Φ := fun H k Q c => c true fs H k h
theorem RS.t {p : Addr} {xs : List V} {lo hi : Option Int} (h : Rt K H0 fs p xs) (hn : ¬ (HT.sIx xs.length 0 lo = 0 ∧ HT.sIx xs.length xs.length hi = xs.length)) (q : ∀ l, Φ (.ref l) ((l, .tup (cutV xs lo hi)) :: fs)) : RS (rSlT K) (.ref p) lo hi H0 fs Φ := fun H k _ c =>
  ⟨p, xs, rfl, h H k, hn, fun l hl => c _ _ _ (k.new hl) (q l)⟩
/-- over a tuple, with tests, items that may be made anew -/
theorem W.lcT {xs : List V} {j : Nat} {vs : List Nat} (I : Addr → Nat → List V → Fs → Prop)
    (h : W tl σ H0 fs fun v f1 => ∃ a, v = .ref a ∧ Rt K H0 f1 a xs ∧ xs.length ≤ 100000 ∧ I a 0 [] f1)
    (hl : ∀ a i acc f, I a i acc f → Rt K H0 f a xs)
    (hw : ∀ x, wipe ((wipe σ vs).set j (some x)) vs = wipe σ vs)
    (hs : ∀ (a : Addr) (i : Nat) (x : V) (D : Addr) (acc : List V) (f : Fs), xs[i]? = some x → I a i acc f →
      WT tt ((wipe σ vs).set j (some x)) H0 ((D, .lst acc) :: f) fun b f2 =>
        (b = true → W te ((wipe σ vs).set j (some x)) H0 f2 fun v f3 => ∃ m, f3[m]? = some (D, .lst acc) ∧ I a (i + 1) (acc ++ [v]) (f3.eraseIdx m)) ∧
        (b = false → ∃ m, f2[m]? = some (D, .lst acc) ∧ I a (i + 1) acc (f2.eraseIdx m)))
    (hd : ∀ a D acc f, I a xs.length acc f → Φ (.ref D) ((D, .lst acc) :: f)) : W (tLc (iTup K tl) (gName j) tt te vs) σ H0 fs Φ := fun H k Q c =>
  h H k _ fun v f1 H1 k1 ⟨a, e, hr, hn, h0⟩ => by
    refine ⟨a, e, ⟨_, hr H1 k1⟩, fun D hD => ?_⟩
    refine lc_tup (K := K) (a := a) (xs := xs) (fun i H' => ∃ acc f, Kn H0 ((D, .lst acc) :: f) H' ∧ I a i acc f ∧ acc.length ≤ i) ⟨[], f1, k1.new hD, h0, Nat.le_refl _⟩ (fun i H' _ ⟨acc, f, p, hi, _⟩ => hl a i acc f hi H' p.drop) (fun i x H' hx ⟨acc, f, p, hi, hlen⟩ => ?_) (fun H' ⟨acc, f, p, hi, _⟩ => c _ _ _ p (hd a D acc f hi))
    obtain ⟨hlt, _⟩ := List.getElem?_eq_some_iff.mp hx
    refine ⟨hw _, ?_⟩
    show tt ((wipe σ vs).set j (some x)) H' _
    refine hs a i x D acc f hx hi H' p _ fun b f2 H2 k2 ⟨ht, hf⟩ => ?_
    cases b with
    | true =>
      show te _ _ _
      refine ht rfl H2 k2 _ fun v f3 H3 k3 ⟨m, hm, hI⟩ => ?_
      have k4 := k3.front hm
      refine ⟨acc, k4.get (.head _), sz_lt (by omega), acc ++ [v], f3.eraseIdx m, k4.put (i := 0) rfl, hI, by simp; omega⟩
    | false =>
      obtain ⟨m, hm, hI⟩ := hf rfl
      exact ⟨acc, _, k2.front hm, hI, by omega⟩
end
end Pa

namespace Pa

/-! ### rows of numbers without end, as a ring -/
def Ser : Type := Nat → Int
namespace Ser
@[ext] theorem ext {f g : Ser} (h : ∀ n, f n = g n) : f = g := funext h
def tail (f : Ser) : Ser := fun n => f (n + 1)
def sm (a : Int) (f : Ser) : Ser := fun n => a * f n
def mulC (f g : Ser) : Nat → Int
  | 0 => f 0 * g 0
  | n + 1 => f 0 * g (n + 1) + mulC (tail f) g n
def mul (f g : Ser) : Ser := fun n => mulC f g n
def C (a : Int) : Ser := fun n => if n = 0 then a else 0
instance : Zero Ser := ⟨C 0⟩
instance : One Ser := ⟨C 1⟩
instance : Add Ser := ⟨fun f g n => f n + g n⟩
instance : Neg Ser := ⟨fun f n => -f n⟩
instance : Sub Ser := ⟨fun f g n => f n - g n⟩
instance : Mul Ser := ⟨mul⟩
instance : NatCast Ser := ⟨fun n => C n⟩
instance : IntCast Ser := ⟨fun n => C n⟩
instance : SMul Nat Ser := ⟨fun k f => sm (k : Int) f⟩
instance : SMul Int Ser := ⟨fun k f => sm k f⟩
instance (n : Nat) : OfNat Ser n := ⟨C n⟩
def npow (f : Ser) : Nat → Ser
  | 0 => 1
  | n + 1 => npow f n * f
instance : HPow Ser Nat Ser := ⟨npow⟩
theorem C_zero (a : Int) : C a 0 = a := rfl
theorem C_succ (a : Int) (n : Nat) : C a (n + 1) = 0 := rfl
theorem zero_at (n : Nat) : (0 : Ser) n = 0 := by
  cases n with
  | zero => rfl
  | succ n => rfl
theorem add_at (f g : Ser) (n : Nat) : (f + g) n = f n + g n := rfl
theorem neg_at (f : Ser) (n : Nat) : (-f) n = -f n := rfl
theorem sub_at (f g : Ser) (n : Nat) : (f - g) n = f n - g n := rfl
theorem sm_at (a : Int) (f : Ser) (n : Nat) : (sm a f) n = a * f n := rfl
theorem tail_at (f : Ser) (n : Nat) : tail f n = f (n + 1) := rfl
theorem mul_zero_at (f g : Ser) : (f * g) 0 = f 0 * g 0 := rfl
theorem mul_succ_at (f g : Ser) (n : Nat) : (f * g) (n + 1) = f 0 * g (n + 1) + (tail f * g) n := rfl
theorem tail_add (f g : Ser) : tail (f + g) = tail f + tail g := rfl
theorem tail_sm (a : Int) (f : Ser) : tail (sm a f) = sm a (tail f) := rfl
theorem tail_mul (f g : Ser) : tail (f * g) = sm (f 0) (tail g) + tail f * g := rfl
theorem tail_C (a : Int) : tail (C a) = 0 := ext fun n => by rw [zero_at]; rfl
theorem tail_zero : tail 0 = 0 := tail_C 0
theorem zero_mul_at (g : Ser) (n : Nat) : ((0 : Ser) * g) n = 0 := by
  induction n with
  | zero => rw [mul_zero_at, zero_at, Int.zero_mul]
  | succ n ih => rw [mul_succ_at, zero_at, Int.zero_mul, tail_zero, ih]; rfl
theorem add_mul_at (f g h : Ser) (n : Nat) : ((f + g) * h) n = (f * h) n + (g * h) n := by
  induction n generalizing f g with
  | zero => rw [mul_zero_at, mul_zero_at, mul_zero_at, add_at, Int.add_mul]
  | succ n ih => rw [mul_succ_at, mul_succ_at, mul_succ_at, tail_add, ih, add_at, Int.add_mul]; omega
theorem sm_mul_at (a : Int) (f h : Ser) (n : Nat) : (sm a f * h) n = a * (f * h) n := by
  induction n generalizing f with
  | zero => rw [mul_zero_at, mul_zero_at, sm_at, Int.mul_assoc]
  | succ n ih => rw [mul_succ_at, mul_succ_at, tail_sm, ih, sm_at, Int.mul_assoc, Int.mul_add]
/-- the other recursion -/
theorem mul_succ_at' (f g : Ser) (n : Nat) : (f * g) (n + 1) = (f * tail g) n + f (n + 1) * g 0 := by
  induction n generalizing f with
  | zero => rw [mul_succ_at, mul_zero_at, mul_zero_at]; rfl
  | succ n ih =>
    rw [mul_succ_at, ih (tail f), mul_succ_at f (tail g), tail_at, tail_at]
    omega
theorem mul_comm_at (f g : Ser) (n : Nat) : (f * g) n = (g * f) n := by
  induction n generalizing f g with
  | zero => rw [mul_zero_at, mul_zero_at]; exact Int.mul_comm _ _
  | succ n ih =>
    rw [mul_succ_at' g f, ← ih (tail f) g, mul_succ_at, Int.mul_comm (f 0), Int.add_comm]
theorem mul_comm' (f g : Ser) : f * g = g * f := ext fun n => mul_comm_at f g n
theorem mul_assoc' (f g h : Ser) : f * g * h = f * (g * h) := by
  refine ext fun n => ?_
  induction n generalizing f with
  | zero => rw [mul_zero_at, mul_zero_at, mul_zero_at, mul_zero_at, Int.mul_assoc]
  | succ n ih =>
    rw [mul_succ_at, tail_mul, add_mul_at, sm_mul_at, ih (tail f), mul_succ_at f, mul_succ_at g, mul_zero_at, Int.mul_add, Int.mul_assoc]
    omega
theorem C_mul (a : Int) (f : Ser) (n : Nat) : (C a * f) n = a * f n := by
  cases n with
  | zero => rfl
  | succ n => rw [mul_succ_at, C_zero, tail_C, zero_mul_at, Int.add_zero]
theorem one_mul' (f : Ser) : 1 * f = f := ext fun n => by
  show (C 1 * f) n = f n
  rw [C_mul, Int.one_mul]
theorem one_eq : (1 : Ser) = C 1 := rfl
theorem zero_eq : (0 : Ser) = C 0 := rfl
theorem C_add (a b : Int) : C (a + b) = C a + C b := ext fun n => by
  cases n with
  | zero => rfl
  | succ n => rfl
theorem C_neg (a : Int) : C (-a) = -C a := ext fun n => by
  cases n with
  | zero => rfl
  | succ n => rfl
theorem C_sub (a b : Int) : C (a - b) = C a - C b := ext fun n => by
  cases n with
  | zero => rfl
  | succ n => rfl
theorem C_mulC (a b : Int) : C (a * b) = C a * C b := ext fun n => by
  rw [C_mul]
  cases n with
  | zero => rfl
  | succ n => rw [C_succ, C_succ, Int.mul_zero]
theorem C_inj {a b : Int} (h : C a = C b) : a = b := congrFun h 0
theorem sm_eq (a : Int) (f : Ser) : sm a f = C a * f := ext fun n => (C_mul a f n).symm
instance : Lean.Grind.CommRing Ser where
  add_zero f := ext fun n => by rw [add_at, zero_at, Int.add_zero]
  add_comm f g := ext fun n => Int.add_comm _ _
  add_assoc f g h := ext fun n => Int.add_assoc _ _ _
  mul_assoc := mul_assoc'
  mul_one f := by rw [mul_comm']; exact one_mul' f
  one_mul := one_mul'
  left_distrib f g h := by
    rw [mul_comm', mul_comm' f g, mul_comm' f h]
    exact ext fun n => add_mul_at g h f n
  right_distrib f g h := ext fun n => add_mul_at f g h n
  zero_mul f := ext fun n => by rw [zero_at, zero_mul_at]
  mul_zero f := by
    rw [mul_comm']
    exact ext fun n => by rw [zero_at, zero_mul_at]
  pow_zero f := rfl
  pow_succ f n := rfl
  nsmul_eq_natCast_mul k f := sm_eq k f
  ofNat_succ k := by
    show C ((k + 1 : Nat) : Int) = C (k : Int) + C 1
    rw [← C_add]; rfl
  ofNat_eq_natCast k := rfl
  neg_add_cancel f := ext fun n => by rw [add_at, neg_at, zero_at, Int.add_left_neg]
  sub_eq_add_neg f g := ext fun n => rfl
  neg_zsmul i f := ext fun n => Int.neg_mul _ _
  zsmul_natCast_eq_nsmul k f := rfl
  intCast_ofNat k := rfl
  intCast_neg k := C_neg k
  mul_comm := mul_comm'

example (a b : Ser) : (a + b) * (a - b) = a * a - b * b := by grind
example (a b c d : Ser) (h : a * b = c) (h2 : c = d * a) : a * b * b = d * a * b := by grind
end Ser
end Pa

namespace Pa
open Ser

/-! ### rows as series -/
def S (xs : List Int) : Ser := fun i => xs.getD i 0
theorem S_at (xs : List Int) (i : Nat) : S xs i = xs.getD i 0 := rfl
theorem S_out {xs : List Int} {i : Nat} (h : xs.length ≤ i) : S xs i = 0 := by
  rw [S_at, List.getD_eq_getElem?_getD, List.getElem?_eq_none h]; rfl
theorem S_nil : S [] = 0 := Ser.ext fun n => by rw [S_at, zero_at]; rfl
theorem getD_app_zeros (xs : List Int) (k i : Nat) : (xs ++ List.replicate k 0).getD i 0 = xs.getD i 0 := by
  rw [List.getD_eq_getElem?_getD, List.getD_eq_getElem?_getD, List.getElem?_append]
  split
  · rfl
  · rename_i h
    rw [List.getElem?_eq_none (by omega : xs.length ≤ i), List.getElem?_replicate]
    split <;> rfl
theorem S_trim (xs : List Int) : S (trim xs) = S xs := Ser.ext fun n => by
  obtain ⟨k, e, _⟩ := trim_cases xs
  rw [S_at, S_at]
  conv => rhs; rw [e]
  rw [getD_app_zeros]
theorem getD_map_range (n : Nat) (f : Nat → Int) (i : Nat) : ((List.range n).map f).getD i 0 = if i < n then f i else 0 := by
  rw [List.getD_eq_getElem?_getD, List.getElem?_map]
  by_cases h : i < n
  · rw [if_pos h, List.getElem?_range h]; rfl
  · rw [if_neg h, List.getElem?_eq_none (by simp; omega)]; rfl
theorem S_plus (xs ys : List Int) : S (plus xs ys) = S xs + S ys := by
  unfold plus
  rw [S_trim]
  refine Ser.ext fun n => ?_
  rw [S_at, getD_map_range, add_at]
  split
  · rw [gat_nat, gat_nat]; rfl
  · rw [S_out (by omega), S_out (by omega)]; rfl
theorem S_minus (xs ys : List Int) : S (minus xs ys) = S xs - S ys := by
  unfold minus
  rw [S_trim]
  refine Ser.ext fun n => ?_
  rw [S_at, getD_map_range, sub_at]
  split
  · rw [gat_nat, gat_nat]; rfl
  · rw [S_out (by omega), S_out (by omega)]; rfl
theorem S_map_mul (xs : List Int) (m : Int) : S (xs.map fun x => m * x) = C m * S xs := Ser.ext fun n => by
  rw [S_at, C_mul, S_at, List.getD_eq_getElem?_getD, List.getD_eq_getElem?_getD, List.getElem?_map]
  cases xs[n]? with
  | none => exact (Int.mul_zero m).symm
  | some x => rfl
theorem S_scaled (xs : List Int) (m : Int) : S (scaled xs m) = C m * S xs := by
  unfold scaled
  rw [S_trim, S_map_mul]
/-- the letter -/
def X : Ser := fun n => if n = 1 then 1 else 0
theorem tail_X : tail X = 1 := Ser.ext fun n => by
  cases n with
  | zero => rfl
  | succ n => rfl
theorem X_mul_zero (f : Ser) : (X * f) 0 = 0 := by rw [mul_zero_at]; exact Int.zero_mul _
theorem X_mul_succ (f : Ser) (n : Nat) : (X * f) (n + 1) = f n := by
  rw [mul_succ_at, tail_X, one_mul', show X 0 = 0 from rfl, Int.zero_mul, Int.zero_add]
theorem S_cons (a : Int) (r : List Int) : S (a :: r) = C a + X * S r := Ser.ext fun n => by
  cases n with
  | zero => rw [add_at, X_mul_zero]; exact (Int.add_zero a).symm
  | succ n => rw [add_at, X_mul_succ, C_succ, Int.zero_add]; rfl
theorem S_one (a : Int) : S [a] = C a := by
  rw [S_cons, S_nil]; grind
theorem X_pow_mul (j : Nat) (f : Ser) (i : Nat) : (X ^ j * f) i = if j ≤ i then f (i - j) else 0 := by
  induction j generalizing i with
  | zero =>
    have : X ^ 0 * f = f := by grind
    rw [this, if_pos (Nat.zero_le _)]; rfl
  | succ j ih =>
    have : X ^ (j + 1) * f = X * (X ^ j * f) := by grind
    rw [this]
    cases i with
    | zero => rw [X_mul_zero, if_neg (by omega)]
    | succ i =>
      rw [X_mul_succ, ih]
      by_cases h : j ≤ i
      · rw [if_pos h, if_pos (by omega), Nat.add_sub_add_right]
      · rw [if_neg h, if_neg (by omega)]
theorem S_app (xs ys : List Int) : S (xs ++ ys) = S xs + X ^ xs.length * S ys := by
  induction xs with
  | nil =>
    show S ys = S [] + X ^ 0 * S ys
    rw [S_nil]; grind
  | cons a r ih =>
    rw [List.cons_append, S_cons, ih, S_cons, List.length_cons]
    grind
theorem S_snoc (xs : List Int) (a : Int) : S (xs ++ [a]) = S xs + C a * X ^ xs.length := by
  rw [S_app, S_one]; grind
theorem S_take_succ {xs : List Int} {n : Nat} (h : n < xs.length) : S (xs.take (n + 1)) = S (xs.take n) + C (xs.getD n 0) * X ^ n := by
  rw [take_succ_getD h, S_snoc, List.length_take, Nat.min_eq_left (Nat.le_of_lt h)]

theorem S_set {acc : List Int} {i : Nat} (h : i < acc.length) (v : Int) : S (acc.set i (acc.getD i 0 + v)) = S acc + C v * X ^ i := Ser.ext fun n => by
  rw [S_at, getD_set, add_at, C_mul]
  have e : (X ^ i : Ser) = X ^ i * 1 := by grind
  rw [e, X_pow_mul]
  by_cases hn : i = n
  · subst hn
    rw [if_pos rfl, if_pos h, if_pos (Nat.le_refl _), Nat.sub_self]
    show _ = _ + v * 1
    rw [Int.mul_one]; rfl
  · rw [if_neg hn]
    by_cases hl : i ≤ n
    · rw [if_pos hl]
      obtain ⟨k, hk⟩ : ∃ k, n - i = k + 1 := ⟨n - i - 1, by omega⟩
      rw [hk]
      show _ = _ + v * 0
      rw [Int.mul_zero, Int.add_zero]; rfl
    · rw [if_neg hl, Int.mul_zero, Int.add_zero]; rfl
theorem S_row {x : Int} {ys : List Int} {j : Nat} {acc : List Int} : ∀ n : Nat, n ≤ ys.length → j + n ≤ acc.length → S (lp (tmIn x ys j) n acc) = S acc + C x * X ^ j * S (ys.take n)
  | 0, _, _ => by
    show S acc = _
    rw [List.take_zero, S_nil]; grind
  | n + 1, h1, h2 => by
    have ih := S_row (x := x) (ys := ys) (j := j) (acc := acc) n (by omega) (by omega)
    show S ((lp (tmIn x ys j) n acc).set (j + n) ((lp (tmIn x ys j) n acc).getD (j + n) 0 + x * ys.getD n 0)) = _
    rw [S_set (by rw [lp_len (fun i a => tmIn_len _ _ _ _ _)]; omega), ih, S_take_succ (by omega), C_mulC]
    have e : (X ^ (j + n) : Ser) = X ^ j * X ^ n := by grind
    rw [e]
    grind
theorem S_zeros (n : Nat) : S (List.replicate n 0) = 0 := Ser.ext fun i => by rw [S_at, getD_replicate, zero_at]
theorem S_raw {xs ys : List Int} : ∀ n : Nat, n ≤ xs.length → S (lp (tmRow xs ys) n (List.replicate (xs.length + ys.length) 0)) = S (xs.take n) * S ys
  | 0, _ => by
    show S (List.replicate (xs.length + ys.length) 0) = _
    rw [S_zeros, List.take_zero, S_nil]; grind
  | n + 1, h => by
    have ih := S_raw (xs := xs) (ys := ys) n (by omega)
    show S (lp (tmIn (xs.getD n 0) ys n) ys.length _) = _
    rw [S_row ys.length (Nat.le_refl _) (by rw [lp_len (fun i a => tmRow_len _ _ _ _), List.length_replicate]; omega), ih, S_take_succ (by omega), List.take_length]
    grind
theorem S_tm (xs ys : List Int) : S (tm xs ys) = S xs * S ys := by
  unfold tm
  rw [S_trim]
  unfold tmRaw
  rw [S_raw xs.length (Nat.le_refl _), List.take_length]
theorem S_pw (xs : List Int) : ∀ n : Nat, S (pw xs n) = S xs ^ n
  | 0 => by
    show S [1] = _
    rw [S_one, ← one_eq]; grind
  | n + 1 => by
    show S (tm (pw xs n) xs) = _
    rw [S_tm, S_pw xs n]; grind
/-- trimmed rows are told by their series -/
theorem S_inj {xs ys : List Int} (hx : Tr xs) (hy : Tr ys) (h : S xs = S ys) : xs = ys := by
  have key : ∀ {xs ys : List Int}, Tr xs → S xs = S ys → xs.length ≤ ys.length := fun {xs ys} hx h => by
    rcases snoc_cases xs with rfl | ⟨zs, z, rfl⟩
    · exact Nat.zero_le _
    · refine Nat.le_of_not_lt fun hl => ?_
      rw [List.length_append, List.length_singleton] at hl
      have hz := tr_last hx (by simp)
      rw [List.getLast_append] at hz
      have e := congrFun h zs.length
      rw [S_out (xs := ys) (by omega), S_at, List.getD_eq_getElem?_getD] at e
      simp at e hz
      exact hz e
  have l1 := key hx h
  have l2 := key hy h.symm
  refine List.ext_getElem (Nat.le_antisymm l1 l2) fun i h1 h2 => ?_
  have e := congrFun h i
  rw [S_at, S_at, List.getD_eq_getElem?_getD, List.getD_eq_getElem?_getD, List.getElem?_eq_getElem h1, List.getElem?_eq_getElem h2] at e
  exact e
theorem tm_comm (xs ys : List Int) : tm xs ys = tm ys xs := S_inj (tm_tr _ _) (tm_tr _ _) (by rw [S_tm, S_tm]; grind)
theorem plus_tr (xs ys : List Int) : Tr (plus xs ys) := tr_trim _
theorem minus_tr (xs ys : List Int) : Tr (minus xs ys) := tr_trim _
theorem scaled_tr (xs : List Int) (m : Int) : Tr (scaled xs m) := tr_trim _
theorem S_zero_nil {xs : List Int} (hx : Tr xs) (h : S xs = 0) : xs = [] := S_inj hx tr_nil (by rw [h, S_nil])

/-! ### one in the other's letter -/
def pin (ys : List Int) : List Int → List Int
  | [] => []
  | a :: r => plus (tm (pin ys r) ys) [a]
def sub (G : Ser) : List Int → Ser
  | [] => 0
  | a :: r => C a + sub G r * G
theorem S_pin (ys : List Int) : ∀ xs : List Int, S (pin ys xs) = sub (S ys) xs
  | [] => S_nil
  | a :: r => by
    show S (plus (tm (pin ys r) ys) [a]) = C a + sub (S ys) r * S ys
    rw [S_plus, S_tm, S_one, S_pin ys r]; grind
theorem sub_snoc (G : Ser) (xs : List Int) (a : Int) : sub G (xs ++ [a]) = sub G xs + C a * G ^ xs.length := by
  induction xs with
  | nil =>
    show C a + 0 * G = 0 + C a * G ^ 0
    grind
  | cons b r ih =>
    show C b + sub G (r ++ [a]) * G = C b + sub G r * G + C a * G ^ (r.length + 1)
    rw [ih]; grind
theorem pin_tr (ys : List Int) : ∀ xs : List Int, Tr (pin ys xs)
  | [] => tr_nil
  | a :: r => plus_tr _ _
theorem pin_len (ys : List Int) : ∀ xs : List Int, (pin ys xs).length ≤ xs.length * (ys.length + 1)
  | [] => Nat.zero_le _
  | a :: r => by
    have ih := pin_len ys r
    have h1 := plus_len (tm (pin ys r) ys) [a]
    have h2 := tm_len (pin ys r) ys
    show (plus (tm (pin ys r) ys) [a]).length ≤ (r.length + 1) * (ys.length + 1)
    rw [Nat.succ_mul]
    simp only [List.length_singleton] at h1
    omega
theorem pin_bd {ys : List Int} {a b c : Nat} (hy : BdL b ys) : ∀ xs : List Int, BdL a xs → xs.length * (ys.length + 1) ≤ 2 ^ c → BdL (a + xs.length * (b + c + 1)) (pin ys xs)
  | [], _, _ => BdL.nil
  | x :: r, hx, hl => by
    have hl' : (r.length + 1) * (ys.length + 1) ≤ 2 ^ c := hl
    rw [Nat.succ_mul] at hl'
    have ih := pin_bd (a := a) (c := c) hy r (fun y h => hx y (List.mem_cons_of_mem _ h)) (by omega)
    have h1 := tm_bd (c := c) ih hy (by have := pin_len ys r; omega)
    have h2 : BdL a [x] := fun y h => hx y (by rw [List.mem_singleton.mp h]; exact List.mem_cons_self)
    have h3 := plus_bd h1 (h2.mono (show a ≤ a + r.length * (b + c + 1) + b + c by omega))
    refine h3.mono ?_
    show _ ≤ a + (r.length + 1) * (b + c + 1)
    rw [Nat.succ_mul]; omega
/-! ### the law's own way of adding up -/
def due (ys : List Int) : Nat → List Int → List Int × List Int
  | 0, _ => ([], [1])
  | n + 1, xs => (plus (due ys n xs).1 (tm [xs.getD n 0] (due ys n xs).2), tm (due ys n xs).2 ys)
theorem due_pw (ys : List Int) (xs : List Int) : ∀ n, (due ys n xs).2 = pw ys n
  | 0 => rfl
  | n + 1 => by
    show tm (due ys n xs).2 ys = tm (pw ys n) ys
    rw [due_pw]
theorem S_due (ys xs : List Int) : ∀ n, n ≤ xs.length → S (due ys n xs).1 = sub (S ys) (xs.take n)
  | 0, _ => by rw [List.take_zero]; exact S_nil
  | n + 1, h => by
    show S (plus (due ys n xs).1 (tm [xs.getD n 0] (due ys n xs).2)) = _
    rw [S_plus, S_tm, S_one, due_pw, S_pw, S_due ys xs n (by omega), take_succ_getD (by omega), sub_snoc, List.length_take, Nat.min_eq_left (by omega)]
theorem due_tr (ys xs : List Int) (n : Nat) : Tr (due ys n xs).1 := by
  cases n with
  | zero => exact tr_nil
  | succ n => exact plus_tr _ _
theorem due_eq (ys xs : List Int) : (due ys xs.length xs).1 = pin ys xs := S_inj (due_tr _ _ _) (pin_tr _ _) (by rw [S_due _ _ _ (Nat.le_refl _), List.take_length, S_pin])
end Pa

namespace Pa
open Ser

/-! ### what divides all numbers of a row -/
def cont : List Int → Nat
  | [] => 0
  | a :: r => Nat.gcd a.natAbs (cont r)
theorem cont_app (xs ys : List Int) : cont (xs ++ ys) = Nat.gcd (cont xs) (cont ys) := by
  induction xs with
  | nil => exact (Nat.gcd_zero_left _).symm
  | cons a r ih =>
    show Nat.gcd a.natAbs (cont (r ++ ys)) = Nat.gcd (Nat.gcd a.natAbs (cont r)) (cont ys)
    rw [ih, Nat.gcd_assoc]
theorem cont_snoc (xs : List Int) (x : Int) : cont (xs ++ [x]) = Nat.gcd (cont xs) x.natAbs := by
  rw [cont_app]
  show Nat.gcd _ (Nat.gcd x.natAbs 0) = _
  rw [Nat.gcd_zero_right]
theorem cont_dvd {xs : List Int} {x : Int} (h : x ∈ xs) : (cont xs : Int) ∣ x := by
  refine Int.ofNat_dvd_left.mpr ?_
  induction xs with
  | nil => exact absurd h List.not_mem_nil
  | cons a r ih =>
    rcases List.mem_cons.mp h with rfl | h
    · exact Nat.gcd_dvd_left _ _
    · exact Nat.dvd_trans (Nat.gcd_dvd_right _ _) (ih h)
theorem dvd_cont {xs : List Int} {d : Nat} (h : ∀ x ∈ xs, (d : Int) ∣ x) : d ∣ cont xs := by
  induction xs with
  | nil => exact Nat.dvd_zero d
  | cons a r ih => exact Nat.dvd_gcd (Int.ofNat_dvd_left.mp (h a List.mem_cons_self)) (ih fun x hx => h x (List.mem_cons_of_mem _ hx))
theorem cont_zero {xs : List Int} (h : cont xs = 0) : ∀ x ∈ xs, x = 0 := fun x hx => by
  have := cont_dvd hx
  rw [h] at this
  exact Int.zero_dvd.mp this
theorem cont_pos {xs : List Int} (ht : Tr xs) (hne : xs ≠ []) : 0 < cont xs :=
  Nat.pos_of_ne_zero fun z => tr_last ht hne (cont_zero z _ (List.getLast_mem hne))
theorem cont_le {xs : List Int} {x : Int} (h : x ∈ xs) (h0 : x ≠ 0) : cont xs ≤ x.natAbs :=
  Nat.le_of_dvd (Int.natAbs_pos.mpr h0) (Int.ofNat_dvd_left.mp (cont_dvd h))
theorem cont_bd {b : Nat} {xs : List Int} (h : BdL b xs) : cont xs < 2 ^ b := by
  induction xs with
  | nil => exact Nat.two_pow_pos b
  | cons a r ih =>
    by_cases h0 : a = 0
    · subst h0
      show Nat.gcd 0 (cont r) < _
      rw [Nat.gcd_zero_left]
      exact ih fun x hx => h x (List.mem_cons_of_mem _ hx)
    · exact Nat.lt_of_le_of_lt (cont_le List.mem_cons_self h0) (h a List.mem_cons_self)
/-- its sign as the last number's -/
def sgc (xs : List Int) : Int := if xs.getLast?.getD 0 < 0 then -(cont xs : Int) else (cont xs : Int)
theorem sgc_abs (xs : List Int) : (sgc xs).natAbs = cont xs := by
  unfold sgc
  split <;> simp
theorem sgc_ne {xs : List Int} (ht : Tr xs) (hne : xs ≠ []) : sgc xs ≠ 0 := fun h => by
  have := sgc_abs xs
  rw [h] at this
  exact absurd this (Nat.ne_of_lt (cont_pos ht hne))
theorem sgc_dvd {xs : List Int} {x : Int} (h : x ∈ xs) : sgc xs ∣ x := by
  unfold sgc
  split
  · exact Int.neg_dvd.mpr (cont_dvd h)
  · exact cont_dvd h
def divBy (xs : List Int) (c : Int) : List Int := xs.map fun x => x.fdiv c
def simp' (xs : List Int) : List Int := divBy xs (sgc xs)
theorem fdiv_of_dvd {x c : Int} (hc : c ≠ 0) (h : c ∣ x) : c * x.fdiv c = x := by
  obtain ⟨k, rfl⟩ := h
  rw [Int.mul_fdiv_cancel_left k hc]
theorem divBy_map {xs : List Int} {c : Int} (hc : c ≠ 0) (h : ∀ x ∈ xs, c ∣ x) : (divBy xs c).map (fun x => c * x) = xs := by
  unfold divBy
  rw [List.map_map]
  conv => rhs; rw [← List.map_id xs]
  exact List.map_congr_left fun x hx => fdiv_of_dvd hc (h x hx)
theorem S_divBy {xs : List Int} {c : Int} (hc : c ≠ 0) (h : ∀ x ∈ xs, c ∣ x) : C c * S (divBy xs c) = S xs := by
  rw [← S_map_mul, divBy_map hc h]
theorem divBy_tr {xs : List Int} {c : Int} (hc : c ≠ 0) (h : ∀ x ∈ xs, c ∣ x) (ht : Tr xs) : Tr (divBy xs c) := by
  rcases snoc_cases xs with rfl | ⟨ys, y, rfl⟩
  · exact tr_nil
  · have hy : y ≠ 0 := by
      have := tr_last ht (by simp)
      simpa using this
    unfold divBy
    rw [List.map_append]
    refine tr_of_last fun z => hy ?_
    have z' : y.fdiv c = 0 := z
    rw [← fdiv_of_dvd hc (h y (by simp)), z', Int.mul_zero]
theorem divBy_len (xs : List Int) (c : Int) : (divBy xs c).length = xs.length := List.length_map _
theorem divBy_bd {b : Nat} {xs : List Int} {c : Int} (hc : c ≠ 0) (h : ∀ x ∈ xs, c ∣ x) (hb : BdL b xs) : BdL b (divBy xs c) := fun y hy => by
  obtain ⟨x, hx, rfl⟩ := List.mem_map.mp hy
  have e := fdiv_of_dvd hc (h x hx)
  refine Nat.lt_of_le_of_lt ?_ (hb x hx)
  rw [← e, Int.natAbs_mul, e]
  exact Nat.le_mul_of_pos_left _ (Int.natAbs_pos.mpr hc)
theorem cont_map_mul (xs : List Int) (c : Int) : cont (xs.map fun x => c * x) = c.natAbs * cont xs := by
  induction xs with
  | nil => rfl
  | cons a r ih =>
    show Nat.gcd (c * a).natAbs (cont (r.map fun x => c * x)) = c.natAbs * Nat.gcd a.natAbs (cont r)
    rw [ih, Int.natAbs_mul, Nat.gcd_mul_left]
theorem cont_divBy {xs : List Int} {c : Int} (hc : c ≠ 0) (h : ∀ x ∈ xs, c ∣ x) : c.natAbs * cont (divBy xs c) = cont xs := by
  rw [← cont_map_mul, divBy_map hc h]
theorem simp_nil : simp' [] = [] := rfl
theorem simp_tr {xs : List Int} (ht : Tr xs) : Tr (simp' xs) := by
  by_cases hne : xs = []
  · subst hne; exact tr_nil
  · exact divBy_tr (sgc_ne ht hne) (fun x hx => sgc_dvd hx) ht
theorem simp_cont {xs : List Int} (ht : Tr xs) (hne : xs ≠ []) : cont (simp' xs) = 1 := by
  have e := cont_divBy (sgc_ne ht hne) fun x hx => sgc_dvd (xs := xs) hx
  rw [sgc_abs] at e
  exact Nat.eq_of_mul_eq_mul_left (cont_pos ht hne) (by rw [Nat.mul_one]; exact e)
theorem S_simp {xs : List Int} (ht : Tr xs) : C (sgc xs) * S (simp' xs) = S xs := by
  by_cases hne : xs = []
  · subst hne
    show C 0 * S [] = S []
    rw [S_nil]; grind
  · exact S_divBy (sgc_ne ht hne) fun x hx => sgc_dvd hx
theorem simp_len (xs : List Int) : (simp' xs).length = xs.length := divBy_len _ _
theorem simp_bd {b : Nat} {xs : List Int} (ht : Tr xs) (hb : BdL b xs) : BdL b (simp' xs) := by
  by_cases hne : xs = []
  · subst hne; exact hb
  · exact divBy_bd (sgc_ne ht hne) (fun x hx => sgc_dvd hx) hb
theorem simp_ne {xs : List Int} (hne : xs ≠ []) : simp' xs ≠ [] := fun z => hne (List.length_eq_zero_iff.mp (by rw [← simp_len, z]; rfl))
/-- its last number is above nought -/
theorem simp_last {xs : List Int} (ht : Tr xs) (hne : xs ≠ []) : 0 < (simp' xs).getLast (simp_ne hne) := by
  rcases snoc_cases xs with rfl | ⟨ys, y, rfl⟩
  · exact absurd rfl hne
  · have hy : y ≠ 0 := by simpa using tr_last ht hne
    have e1 : (simp' (ys ++ [y])).getLast (simp_ne hne) = y.fdiv (sgc (ys ++ [y])) := by
      unfold simp' divBy
      simp only [List.map_append, List.map_cons, List.map_nil, List.getLast_append]
      simp
    have hp := cont_pos ht hne
    have hd : (cont (ys ++ [y]) : Int) ∣ y := cont_dvd (by simp)
    rw [e1]
    unfold sgc
    have e2 : (ys ++ [y]).getLast?.getD 0 = y := by simp
    rw [e2]
    obtain ⟨k, hk⟩ := hd
    generalize cont (ys ++ [y]) = c at hp hk
    have hc : (0 : Int) < (c : Int) := by omega
    subst hk
    split
    · rename_i hneg
      have e3 : (c : Int) * k = -(c : Int) * -k := (Int.neg_mul_neg _ _).symm
      rw [e3, Int.mul_fdiv_cancel_left _ (by omega)]
      have := Int.neg_of_mul_neg_right (a := (c : Int)) (b := k)
      have hk : k < 0 := by
        refine Int.not_le.mp fun hk => ?_
        have := Int.mul_nonneg (Int.le_of_lt hc) hk
        omega
      omega
    · rename_i hneg
      rw [Int.mul_fdiv_cancel_left _ (by omega)]
      refine Int.not_le.mp fun hk => ?_
      have := Int.mul_nonpos_of_nonneg_of_nonpos (Int.le_of_lt hc) hk
      omega
/-- made with the content above nought, then turned -/
theorem simp_eq {xs : List Int} (ht : Tr xs) (hne : xs ≠ []) : simp' xs = if (divBy xs (cont xs)).getLast?.getD 0 < 0 then (divBy xs (cont xs)).map (fun x => -x) else divBy xs (cont xs) := by
  have hp := cont_pos ht hne
  rcases snoc_cases xs with rfl | ⟨ys, y, rfl⟩
  · exact absurd rfl hne
  have hd : (cont (ys ++ [y]) : Int) ∣ y := cont_dvd (by simp)
  have e1 : (divBy (ys ++ [y]) (cont (ys ++ [y]))).getLast?.getD 0 = y.fdiv (cont (ys ++ [y])) := by
    unfold divBy
    rw [List.map_append]
    simp
  have e2 : (ys ++ [y]).getLast?.getD 0 = y := by simp
  have iff : y.fdiv (cont (ys ++ [y])) < 0 ↔ y < 0 := by
    obtain ⟨k, hk⟩ := hd
    have hc : (0 : Int) < (cont (ys ++ [y]) : Int) := by omega
    generalize cont (ys ++ [y]) = c at hp hk hc
    subst hk
    rw [Int.mul_fdiv_cancel_left _ (by omega)]
    constructor
    · intro hk
      exact Int.mul_neg_of_pos_of_neg hc hk
    · intro h
      refine Int.not_le.mp fun hk => ?_
      have := Int.mul_nonneg (Int.le_of_lt hc) hk
      omega
  rw [e1]
  unfold simp' sgc
  rw [e2]
  by_cases hy : y < 0
  · rw [if_pos hy, if_pos (iff.mpr hy)]
    unfold divBy
    rw [List.map_map]
    refine List.map_congr_left fun x hx => ?_
    obtain ⟨k, hk⟩ := cont_dvd hx
    show x.fdiv (-(cont (ys ++ [y]) : Int)) = -(x.fdiv (cont (ys ++ [y])))
    have hc : (cont (ys ++ [y]) : Int) ≠ 0 := by omega
    have e3 : (cont (ys ++ [y]) : Int) * k = -(cont (ys ++ [y]) : Int) * -k := (Int.neg_mul_neg _ _).symm
    conv => rhs; rw [hk, Int.mul_fdiv_cancel_left _ hc]
    rw [hk, e3, Int.mul_fdiv_cancel_left _ (by omega)]
  · rw [if_neg hy, if_neg (fun h => hy (iff.mp h))]
end Pa

namespace Pa
open Ser

/-! ### division with a rest, without fractions -/
/-- nothing but 1 divides the number and the two rows -/
def CP (m : Int) (f r : Ser) : Prop := ∀ d : Nat, (d : Int) ∣ m → (∀ i, (d : Int) ∣ f i) → (∀ i, (d : Int) ∣ r i) → d = 1
theorem dvd_S {d : Int} {xs : List Int} (h : ∀ x ∈ xs, d ∣ x) (i : Nat) : d ∣ S xs i := by
  rw [S_at, List.getD_eq_getElem?_getD]
  cases e : xs[i]? with
  | none => exact Int.dvd_zero d
  | some x => exact h x (List.mem_of_getElem? e)
theorem dvd_of_S {d : Int} {xs : List Int} (h : ∀ i, d ∣ S xs i) : ∀ x ∈ xs, d ∣ x := fun x hx => by
  obtain ⟨i, hi, rfl⟩ := List.getElem_of_mem hx
  have := h i
  rw [S_at, List.getD_eq_getElem?_getD, List.getElem?_eq_getElem hi] at this
  exact this
theorem CP.gcd {m : Int} {q r : List Int} (h : CP m (S q) (S r)) : Nat.gcd m.natAbs (Nat.gcd (cont q) (cont r)) = 1 := by
  refine h _ (Int.ofNat_dvd_left.mpr (Nat.gcd_dvd_left _ _)) (dvd_S fun x hx => ?_) (dvd_S fun x hx => ?_)
  · exact Int.dvd_trans (Int.ofNat_dvd.mpr (Nat.dvd_trans (Nat.gcd_dvd_right _ _) (Nat.gcd_dvd_left _ _))) (cont_dvd hx)
  · exact Int.dvd_trans (Int.ofNat_dvd.mpr (Nat.dvd_trans (Nat.gcd_dvd_right _ _) (Nat.gcd_dvd_right _ _))) (cont_dvd hx)
/-- what a step multiplies by, and what it puts -/
def more (lc top : Int) : Int := (lc.natAbs : Int).fdiv (Nat.gcd lc.natAbs top.natAbs : Nat)
def putv (lc top : Int) : Int := (more lc top * top).fdiv lc
theorem step_facts {lc top : Int} (h1 : lc ≠ 0) (h2 : top ≠ 0) : 1 ≤ more lc top ∧ (more lc top).natAbs ≤ lc.natAbs ∧ putv lc top * lc = more lc top * top ∧ (putv lc top).natAbs ≤ top.natAbs ∧ Nat.gcd (more lc top).natAbs (putv lc top).natAbs = 1 := by
  have hg : 0 < Nat.gcd lc.natAbs top.natAbs := Nat.gcd_pos_of_pos_left _ (Int.natAbs_pos.mpr h1)
  obtain ⟨c, hc⟩ : ((Nat.gcd lc.natAbs top.natAbs : Nat) : Int) ∣ lc := Int.ofNat_dvd_left.mpr (Nat.gcd_dvd_left _ _)
  obtain ⟨u, hu⟩ : ((Nat.gcd lc.natAbs top.natAbs : Nat) : Int) ∣ top := Int.ofNat_dvd_left.mpr (Nat.gcd_dvd_right _ _)
  have hcu : Nat.gcd c.natAbs u.natAbs = 1 := by
    have e : Nat.gcd lc.natAbs top.natAbs * Nat.gcd c.natAbs u.natAbs = Nat.gcd lc.natAbs top.natAbs * 1 := by
      rw [← Nat.gcd_mul_left, Nat.mul_one]
      have a1 := congrArg Int.natAbs hc
      have a2 := congrArg Int.natAbs hu
      rw [Int.natAbs_mul, Int.natAbs_natCast] at a1 a2
      rw [← a1, ← a2]
    exact Nat.eq_of_mul_eq_mul_left hg e
  unfold putv more
  generalize Nat.gcd lc.natAbs top.natAbs = g at hg hc hu
  have hg0 : (g : Int) ≠ 0 := by omega
  have c0 : c ≠ 0 := fun z => h1 (by rw [hc, z, Int.mul_zero])
  have e1 : (lc.natAbs : Int).fdiv (g : Int) = (c.natAbs : Int) := by
    have a1 : (lc.natAbs : Int) = (g : Int) * (c.natAbs : Int) := by
      rw [hc, Int.natAbs_mul, Int.natAbs_natCast, Int.natCast_mul]
    rw [a1, Int.mul_fdiv_cancel_left _ hg0]
  rw [e1]
  have hcs : (c.natAbs : Int) = c * c.sign := by
    have := Int.sign_mul_natAbs c
    rcases Int.lt_trichotomy c 0 with h | h | h
    · rw [Int.sign_eq_neg_one_of_neg h]; omega
    · exact absurd h c0
    · rw [Int.sign_eq_one_of_pos h]; omega
  have e2 : ((c.natAbs : Int) * top).fdiv lc = c.sign * u := by
    have a2 : (c.natAbs : Int) * top = lc * (c.sign * u) := by
      rw [hcs, hu, hc]; grind
    rw [a2, Int.mul_fdiv_cancel_left _ h1]
  rw [e2]
  have sa : c.sign.natAbs = 1 := by
    rcases Int.lt_trichotomy c 0 with h | h | h
    · rw [Int.sign_eq_neg_one_of_neg h]; rfl
    · exact absurd h c0
    · rw [Int.sign_eq_one_of_pos h]; rfl
  refine ⟨by omega, ?_, ?_, ?_, ?_⟩
  · rw [hc, Int.natAbs_mul, Int.natAbs_natCast, Int.natAbs_natCast]
    exact Nat.le_mul_of_pos_left _ hg
  · rw [hcs, hu, hc]; grind
  · rw [Int.natAbs_mul, sa, Nat.one_mul, hu, Int.natAbs_mul, Int.natAbs_natCast]
    exact Nat.le_mul_of_pos_left _ hg
  · rw [Int.natAbs_natCast, Int.natAbs_mul, sa, Nat.one_mul]; exact hcu
theorem nat_dvd_of_coprime {d : Nat} {m x : Int} (h : Nat.gcd d m.natAbs = 1) (hd : (d : Int) ∣ m * x) : (d : Int) ∣ x := by
  rw [Int.ofNat_dvd_left] at hd ⊢
  rw [Int.natAbs_mul] at hd
  exact Nat.Coprime.dvd_of_dvd_mul_left h hd

/-- what holds behind t steps of n -/
structure DI (xs ys : List Int) (a b n t : Nat) (m : Int) (f r : List Int) : Prop where
  m1 : 1 ≤ m
  fl : f.length = n
  rl : r.length = xs.length
  eq : C m * S xs = S ys * S f + S r
  rz : ∀ i, n - t + ys.length ≤ i + 1 → S r i = 0
  fz : ∀ i, i < n - t → S f i = 0
  cp : CP m (S f) (S r)
  mb : Bd (t * b + 1) m
  fb : BdL (a + t * (b + 1)) f
  rb : BdL (a + t * (b + 1)) r
theorem DI.start {xs ys : List Int} {a b n : Nat} (hn : n = xs.length + 1 - ys.length) (ha : BdL a xs) : DI xs ys a b n 0 1 (List.replicate n 0) xs where
  m1 := Int.le_refl 1
  fl := List.length_replicate
  rl := rfl
  eq := by rw [S_zeros, ← one_eq]; grind
  rz := fun i hi => S_out (by omega)
  fz := fun i _ => by rw [S_zeros, zero_at]
  cp := fun d hd _ _ => Int.ofNat.inj (Int.eq_one_of_dvd_one (Int.natCast_nonneg d) hd)
  mb := by unfold Bd; rw [Nat.zero_mul]; decide
  fb := fun x hx => by rw [(List.mem_replicate.mp hx).2]; exact Bd.zero
  rb := ha.mono (by omega)
theorem DI.skip {xs ys : List Int} {a b n t : Nat} {m : Int} {f r : List Int} (h : DI xs ys a b n t m f r) (ht : t < n) (hy : 0 < ys.length) (h0 : S r (n - 1 - t + ys.length - 1) = 0) : DI xs ys a b n (t + 1) m f r where
  m1 := h.m1
  fl := h.fl
  rl := h.rl
  eq := h.eq
  rz := fun i hi => by
    by_cases e : n - t + ys.length ≤ i + 1
    · exact h.rz i e
    · have : i = n - 1 - t + ys.length - 1 := by omega
      rw [this]; exact h0
  fz := fun i hi => h.fz i (by omega)
  cp := h.cp
  mb := h.mb.mono (by rw [Nat.succ_mul]; omega)
  fb := h.fb.mono (by rw [Nat.succ_mul]; omega)
  rb := h.rb.mono (by rw [Nat.succ_mul]; omega)
theorem S_one_at (j i : Nat) (v : Int) : (C v * X ^ j : Ser) i = if i = j then v else 0 := by
  rw [C_mul]
  have e : (X ^ j : Ser) = X ^ j * 1 := by grind
  rw [e, X_pow_mul]
  by_cases h : i = j
  · subst h
    rw [if_pos (Nat.le_refl _), if_pos rfl, Nat.sub_self]
    exact Int.mul_one v
  · rw [if_neg h]
    by_cases hl : j ≤ i
    · rw [if_pos hl]
      obtain ⟨k, hk⟩ : ∃ k, i - j = k + 1 := ⟨i - j - 1, by omega⟩
      rw [hk]
      exact Int.mul_zero v
    · rw [if_neg hl, Int.mul_zero]
theorem C_X_at (v : Int) (j : Nat) (g : Ser) (i : Nat) : (C v * X ^ j * g : Ser) i = if j ≤ i then v * g (i - j) else 0 := by
  have e : (C v * X ^ j * g : Ser) = C v * (X ^ j * g) := by grind
  rw [e, C_mul, X_pow_mul]
  split
  · rfl
  · rw [Int.mul_zero]
/-- the rest behind a step -/
def sbIn (v : Int) (ys : List Int) (j k : Nat) (acc : List Int) : List Int := acc.set (j + k) (acc.getD (j + k) 0 - v * ys.getD k 0)
theorem sbIn_eq (v : Int) (ys : List Int) (j : Nat) : sbIn v ys j = tmIn (-v) ys j := by
  funext k acc
  unfold sbIn tmIn
  rw [Int.neg_mul, ← Int.sub_eq_add_neg]
theorem DI.step {xs ys : List Int} {a b n t : Nat} {m : Int} {f r : List Int} (h : DI xs ys a b n t m f r) (ht : t < n) (hn : n = xs.length + 1 - ys.length) (hy : 0 < ys.length) (hb : BdL b ys)
    (hlc : S ys (ys.length - 1) ≠ 0) (htop : S r (n - 1 - t + ys.length - 1) ≠ 0) :
    DI xs ys a b n (t + 1) (m * more (S ys (ys.length - 1)) (S r (n - 1 - t + ys.length - 1)))
      ((f.map fun x => more (S ys (ys.length - 1)) (S r (n - 1 - t + ys.length - 1)) * x).set (n - 1 - t) (putv (S ys (ys.length - 1)) (S r (n - 1 - t + ys.length - 1))))
      (lp (sbIn (putv (S ys (ys.length - 1)) (S r (n - 1 - t + ys.length - 1))) ys (n - 1 - t)) ys.length (r.map fun x => more (S ys (ys.length - 1)) (S r (n - 1 - t + ys.length - 1)) * x)) := by
  obtain ⟨f1, f2, f3, f4, f5⟩ := step_facts hlc htop
  have hlb : (S ys (ys.length - 1)).natAbs < 2 ^ b := hb.at _
  have htb : (S r (n - 1 - t + ys.length - 1)).natAbs < 2 ^ (a + t * (b + 1)) := h.rb.at _
  rw [sbIn_eq]
  generalize more (S ys (ys.length - 1)) (S r (n - 1 - t + ys.length - 1)) = mo at *
  generalize putv (S ys (ys.length - 1)) (S r (n - 1 - t + ys.length - 1)) = v at *
  have hpl : n - 1 - t < (f.map fun x => mo * x).length := by rw [List.length_map, h.fl]; omega
  have hf0 : (f.map fun x => mo * x).getD (n - 1 - t) 0 = 0 := by
    have := congrFun (S_map_mul f mo) (n - 1 - t)
    rw [C_mul, h.fz _ (by omega), Int.mul_zero] at this
    exact this
  have Sf : S ((f.map fun x => mo * x).set (n - 1 - t) v) = C mo * S f + C v * X ^ (n - 1 - t) := by
    have e : v = (f.map fun x => mo * x).getD (n - 1 - t) 0 + v := by rw [hf0, Int.zero_add]
    conv => lhs; rw [e]
    rw [S_set hpl, S_map_mul]
  have rlen : n - 1 - t + ys.length ≤ (r.map fun x => mo * x).length := by rw [List.length_map, h.rl]; omega
  have Sr : S (lp (tmIn (-v) ys (n - 1 - t)) ys.length (r.map fun x => mo * x)) = C mo * S r + C (-v) * X ^ (n - 1 - t) * S ys := by
    rw [S_row _ (Nat.le_refl _) rlen, S_map_mul, List.take_length]
  have hmob : Bd b mo := Nat.lt_of_le_of_lt f2 hlb
  have hvb : Bd (a + t * (b + 1)) v := Nat.lt_of_le_of_lt f4 htb
  refine ⟨?_, ?_, ?_, ?_, ?_, ?_, ?_, ?_, ?_, ?_⟩
  · have h1 : (0 : Int) < m := by have := h.m1; omega
    have h2 : (0 : Int) < mo := by omega
    have h3 := Int.mul_pos h1 h2
    omega
  · rw [List.length_set, List.length_map, h.fl]
  · rw [lp_len (fun i a => tmIn_len _ _ _ _ _), List.length_map, h.rl]
  · rw [Sf, Sr, C_mulC, C_neg]
    have e := h.eq
    grind
  · intro i hi
    rw [Sr, add_at, C_mul, C_X_at]
    by_cases e : n - t + ys.length ≤ i + 1
    · rw [h.rz i e, Int.mul_zero, if_pos (by omega), S_out (xs := ys) (by omega), Int.mul_zero]; rfl
    · have ei : i = n - 1 - t + ys.length - 1 := by omega
      rw [if_pos (by omega), show i - (n - 1 - t) = ys.length - 1 by omega, ei, Int.neg_mul, f3]
      omega
  · intro i hi
    rw [Sf, add_at, C_mul, S_one_at, if_neg (by omega), h.fz i (by omega), Int.mul_zero]; rfl
  · intro d h1 h2 h3
    have hv : (d : Int) ∣ v := by
      have := h2 (n - 1 - t)
      rw [Sf, add_at, C_mul, S_one_at, if_pos rfl, h.fz _ (by omega), Int.mul_zero, Int.zero_add] at this
      exact this
    have hco : Nat.gcd d mo.natAbs = 1 := by
      have e1 : Nat.gcd d mo.natAbs ∣ mo.natAbs := Nat.gcd_dvd_right _ _
      have e2 : Nat.gcd d mo.natAbs ∣ v.natAbs := Nat.dvd_trans (Nat.gcd_dvd_left _ _) (Int.ofNat_dvd_left.mp hv)
      have := Nat.dvd_gcd e1 e2
      rw [f5] at this
      exact Nat.dvd_one.mp this
    refine h.cp d (nat_dvd_of_coprime hco (by rw [Int.mul_comm]; exact h1)) (fun i => ?_) (fun i => ?_)
    · refine nat_dvd_of_coprime hco ?_
      have := h2 i
      rw [Sf, add_at, C_mul, S_one_at] at this
      by_cases e : i = n - 1 - t
      · rw [e, h.fz _ (by omega), Int.mul_zero]; exact Int.dvd_zero _
      · rw [if_neg e, Int.add_zero] at this; exact this
    · refine nat_dvd_of_coprime hco ?_
      have := h3 i
      rw [Sr, add_at, C_mul, C_X_at] at this
      split at this
      · have e3 : (d : Int) ∣ -v * S ys (i - (n - 1 - t)) := Int.dvd_mul_of_dvd_left (Int.dvd_neg.mpr hv)
        exact (Int.dvd_add_left e3).mp this
      · rw [Int.add_zero] at this; exact this
  · exact (h.mb.mul hmob).mono (by rw [Nat.succ_mul]; omega)
  · intro x hx
    rcases List.mem_or_eq_of_mem_set hx with hx | rfl
    · obtain ⟨y, hy, rfl⟩ := List.mem_map.mp hx
      exact (hmob.mul (h.fb y hy)).mono (by rw [Nat.succ_mul]; omega)
    · exact hvb.mono (by rw [Nat.succ_mul]; omega)
  · intro x hx
    obtain ⟨i, hi, rfl⟩ := List.getElem_of_mem hx
    have ex : (lp (tmIn (-v) ys (n - 1 - t)) ys.length (r.map fun x => mo * x))[i] = S (lp (tmIn (-v) ys (n - 1 - t)) ys.length (r.map fun x => mo * x)) i := by
      rw [S_at, List.getD_eq_getElem?_getD, List.getElem?_eq_getElem hi]; rfl
    rw [ex, Sr, add_at, C_mul, C_X_at]
    have h1 : Bd (a + t * (b + 1) + b) (mo * S r i) := (hmob.mul (h.rb.at i)).mono (by omega)
    have h2 : Bd (a + t * (b + 1) + b) (if n - 1 - t ≤ i then -v * S ys (i - (n - 1 - t)) else 0) := by
      split
      · exact (hvb.neg.mul (hb.at _)).mono (by omega)
      · exact Bd.zero
    exact (h1.add h2).mono (by rw [Nat.succ_mul]; omega)
/-- so many times the one is the other times the quotient and the rest; the number, the quotient and the rest have nothing in common -/
structure Dv (xs ys : List Int) (m : Int) (q r : List Int) : Prop where
  m1 : 1 ≤ m
  eq : C m * S xs = S ys * S q + S r
  qt : Tr q
  rt : Tr r
  rl : r.length < ys.length
  cp : CP m (S q) (S r)
theorem DI.dv {xs ys : List Int} {a b n : Nat} {m : Int} {f r : List Int} (h : DI xs ys a b n n m f r) (hy : 0 < ys.length) : Dv xs ys m (trim f) (trim r) where
  m1 := h.m1
  eq := by rw [S_trim, S_trim]; exact h.eq
  qt := tr_trim _
  rt := tr_trim _
  rl := by
    have := trim_len_le (xs := r) (n := ys.length - 1) fun i hi => h.rz i (by omega)
    omega
  cp := by rw [S_trim, S_trim]; exact h.cp
end Pa

namespace Pa
open Ser

/-! ### how far a series goes -/
def Fin (n : Nat) (f : Ser) : Prop := ∀ i, n ≤ i → f i = 0
theorem Fin.S (xs : List Int) : Fin xs.length (Pa.S xs) := fun _ h => S_out h
theorem Fin.mono {n m : Nat} {f : Ser} (h : Fin n f) (hm : n ≤ m) : Fin m f := fun i hi => h i (by omega)
theorem Fin.zero (n : Nat) : Fin n 0 := fun i _ => zero_at i
theorem Fin.add {n : Nat} {f g : Ser} (hf : Fin n f) (hg : Fin n g) : Fin n (f + g) := fun i hi => by rw [add_at, hf i hi, hg i hi]; rfl
theorem Fin.sub {n : Nat} {f g : Ser} (hf : Fin n f) (hg : Fin n g) : Fin n (f - g) := fun i hi => by rw [sub_at, hf i hi, hg i hi]; rfl
theorem Fin.neg {n : Nat} {f : Ser} (hf : Fin n f) : Fin n (-f) := fun i hi => by rw [neg_at, hf i hi]; rfl
theorem Fin.C (a : Int) : Fin 1 (Ser.C a) := fun i hi => by
  obtain ⟨k, rfl⟩ : ∃ k, i = k + 1 := ⟨i - 1, by omega⟩
  exact C_succ a k
theorem Fin.smul {n : Nat} {f : Ser} (a : Int) (hf : Fin n f) : Fin n (Ser.C a * f) := fun i hi => by rw [C_mul, hf i hi, Int.mul_zero]
theorem Fin.eq_zero {f : Ser} (h : Fin 0 f) : f = 0 := Ser.ext fun i => by rw [h i (Nat.zero_le _), zero_at]
/-- the product's top number -/
theorem Fin.top {d e : Nat} {f g : Ser} (hf : Fin (d + 1) f) (hg : Fin (e + 1) g) : (f * g) (d + e) = f d * g e ∧ Fin (d + e + 1) (f * g) := by
  induction d generalizing f with
  | zero =>
    have ht : tail f = 0 := Ser.ext fun i => by rw [tail_at, hf _ (by omega), zero_at]
    have key : ∀ n, (f * g) n = f 0 * g n := fun n => by
      cases n with
      | zero => rfl
      | succ n => rw [mul_succ_at, ht, zero_mul_at, Int.add_zero]
    refine ⟨by rw [Nat.zero_add, key], fun i hi => ?_⟩
    rw [key, hg i (by omega), Int.mul_zero]
  | succ d ih =>
    have ht : Fin (d + 1) (tail f) := fun i hi => hf (i + 1) (by omega)
    obtain ⟨h1, h2⟩ := ih ht
    refine ⟨?_, fun i hi => ?_⟩
    · rw [show d + 1 + e = (d + e) + 1 by omega, mul_succ_at, hg (d + e + 1) (by omega), Int.mul_zero, Int.zero_add, h1]; rfl
    · obtain ⟨k, rfl⟩ : ∃ k, i = k + 1 := ⟨i - 1, by omega⟩
      rw [mul_succ_at, hg (k + 1) (by omega), Int.mul_zero, Int.zero_add]
      exact h2 k (by omega)
theorem Fin.mul {d e : Nat} {f g : Ser} (hf : Fin d f) (hg : Fin e g) : Fin (d + e - 1) (f * g) := by
  cases d with
  | zero =>
    rw [hf.eq_zero]
    intro i _
    exact zero_mul_at g i
  | succ d =>
    cases e with
    | zero =>
      rw [hg.eq_zero, mul_comm']
      intro i _
      exact zero_mul_at f i
    | succ e => exact (Fin.top hf hg).2.mono (by omega)
/-- nought, or its top number -/
theorem Fin.cases {f : Ser} : ∀ {n : Nat}, Fin n f → f = 0 ∨ ∃ d, d < n ∧ f d ≠ 0 ∧ Fin (d + 1) f
  | 0, h => .inl h.eq_zero
  | n + 1, h => by
    by_cases hn : f n = 0
    · have h' : Fin n f := fun i hi => by
        by_cases e : i = n
        · rw [e]; exact hn
        · exact h i (by omega)
      rcases Fin.cases h' with h' | ⟨d, h1, h2, h3⟩
      · exact .inl h'
      · exact .inr ⟨d, by omega, h2, h3⟩
    · exact .inr ⟨n, by omega, hn, h⟩
theorem ne_zero_of_at {f : Ser} {d : Nat} (h : f d ≠ 0) : f ≠ 0 := fun z => h (by rw [z, zero_at])
/-- no divisors of nought -/
theorem mul_eq_zero' {n m : Nat} {f g : Ser} (hf : Fin n f) (hg : Fin m g) (h : f * g = 0) : f = 0 ∨ g = 0 := by
  rcases hf.cases with e | ⟨d, _, h1, h2⟩
  · exact .inl e
  · rcases hg.cases with e | ⟨e, _, h3, h4⟩
    · exact .inr e
    · have t := (Fin.top h2 h4).1
      rw [h, zero_at] at t
      exact absurd t.symm (Int.mul_ne_zero h1 h3)
theorem mul_cancel' {n m k : Nat} {f g h : Ser} (hf : Fin n f) (hg : Fin m g) (hh : Fin k h) (h0 : f ≠ 0) (e : f * g = f * h) : g = h := by
  have e2 : f * (g - h) = 0 := by grind
  rcases mul_eq_zero' hf ((hg.mono (Nat.le_max_left m k)).sub (hh.mono (Nat.le_max_right m k))) e2 with z | z
  · exact absurd z h0
  · grind
/-- a multiple that is shorter is nought -/
theorem mul_short {n L : Nat} {f g : Ser} (hf : Fin n f) (hg : Fin (L + 1) g) (hg0 : g L ≠ 0) (h : Fin L (g * f)) : f = 0 := by
  rcases hf.cases with e | ⟨d, _, h1, h2⟩
  · exact e
  · have t := (Fin.top hg h2).1
    rw [h (L + d) (by omega)] at t
    exact absurd t.symm (Int.mul_ne_zero hg0 h1)
theorem S_ne_zero {xs : List Int} (ht : Tr xs) (hne : xs ≠ []) : S xs ≠ 0 := fun h => hne (S_zero_nil ht h)
theorem S_top {ys : List Int} (ht : Tr ys) (hne : ys ≠ []) : S ys (ys.length - 1) ≠ 0 := by
  have hy : 0 < ys.length := List.length_pos_iff.mpr hne
  have e : S ys (ys.length - 1) = ys.getLast hne := by
    rw [S_at, List.getD_eq_getElem?_getD, List.getElem?_eq_getElem (by omega), List.getLast_eq_getElem]; rfl
  rw [e]; exact tr_last ht hne
theorem Fin.Sl {ys : List Int} (hne : ys ≠ []) : Fin (ys.length - 1 + 1) (Pa.S ys) := (Fin.S ys).mono (by omega)
/-- a series that ends as a row -/
theorem Fin.row {n : Nat} {f : Ser} (h : Fin n f) : ∃ xs, Tr xs ∧ Pa.S xs = f ∧ xs.length ≤ n := by
  refine ⟨trim ((List.range n).map fun i => f i), tr_trim _, ?_, Nat.le_trans (trim_length_le _) (by rw [List.length_map, List.length_range]; exact Nat.le_refl n)⟩
  rw [S_trim]
  refine Ser.ext fun i => ?_
  rw [S_at, getD_map_range]
  split
  · rfl
  · rw [h i (by omega)]
theorem C_ne_zero {a : Int} (h : a ≠ 0) : Ser.C a ≠ 0 := fun z => h (C_inj (by rw [z]; rfl))
theorem C_cancel {a : Int} {f g : Ser} (h : a ≠ 0) (e : Ser.C a * f = Ser.C a * g) : f = g := Ser.ext fun i => by
  have := congrFun e i
  rw [C_mul, C_mul] at this
  exact Int.eq_of_mul_eq_mul_left h this

/-! ### a division that leaves nothing -/
/-- so many times another one -/
def Whole (xs ys q : List Int) : Prop := Tr q ∧ S xs = S ys * S q
theorem Whole.unique {xs ys q q' : List Int} (ht : Tr ys) (hne : ys ≠ []) (h : Whole xs ys q) (h' : Whole xs ys q') : q = q' :=
  S_inj h.1 h'.1 (mul_cancel' (Fin.S ys) (Fin.S q) (Fin.S q') (S_ne_zero ht hne) (by rw [← h.2, ← h'.2]))
theorem Whole.len {xs ys q : List Int} (ht : Tr ys) (hne : ys ≠ []) (h : Whole xs ys q) : q.length ≤ xs.length + 1 - ys.length := by
  by_cases hq : q = []
  · subst hq; exact Nat.zero_le _
  · have h1 := (Fin.top (Fin.Sl hne) (Fin.Sl hq)).1
    rw [← h.2] at h1
    have hy : 0 < ys.length := List.length_pos_iff.mpr hne
    have hq0 : 0 < q.length := List.length_pos_iff.mpr hq
    have h2 : S xs (ys.length - 1 + (q.length - 1)) ≠ 0 := by
      rw [h1]; exact Int.mul_ne_zero (S_top ht hne) (S_top h.1 hq)
    have h3 : ys.length - 1 + (q.length - 1) < xs.length := Nat.lt_of_not_le fun z => h2 (S_out z)
    omega
theorem Dv.whole {xs ys q q' r : List Int} {m : Int} (ht : Tr ys) (hne : ys ≠ []) (h : Dv xs ys m q r) (h' : Whole xs ys q') : m = 1 ∧ r = [] ∧ q = q' := by
  have hy : 0 < ys.length := List.length_pos_iff.mpr hne
  have e1 : S ys * (C m * S q' - S q) = S r := by
    have a1 := h.eq
    have a2 := h'.2
    grind
  have fr : Fin (ys.length - 1) (S ys * (C m * S q' - S q)) := by
    rw [e1]; exact (Fin.S r).mono (by have := h.rl; omega)
  have f1 : Fin (max q'.length q.length) (C m * S q' - S q) := (((Fin.S q').smul m).mono (Nat.le_max_left _ _)).sub ((Fin.S q).mono (Nat.le_max_right _ _))
  have z := mul_short f1 (Fin.Sl hne) (S_top ht hne) fr
  have hr : r = [] := S_zero_nil h.rt (by rw [← e1, z]; grind)
  have hq : S q = C m * S q' := by grind
  have hm : m = 1 := by
    have hd : ((m.natAbs : Nat) : Int) ∣ m := Int.natAbs_dvd.mpr (Int.dvd_refl m)
    have := h.cp m.natAbs hd (fun i => by rw [hq, C_mul]; exact Int.dvd_mul_of_dvd_left hd) (fun i => by rw [hr, S_nil, zero_at]; exact Int.dvd_zero _)
    have := h.m1
    omega
  refine ⟨hm, hr, S_inj h.qt h'.1 ?_⟩
  rw [hq, hm, ← one_eq]; grind
theorem Dv.isWhole {xs ys q : List Int} (h : Dv xs ys 1 q []) : Whole xs ys q := ⟨h.qt, by
  have e := h.eq
  rw [S_nil, ← one_eq] at e
  grind⟩

/-- long division without fractions: what holds behind t steps of n -/
structure QI (xs ys : List Int) (a b n t : Nat) (f r : List Int) : Prop where
  fl : f.length = n
  rl : r.length = xs.length
  eq : S xs = S ys * S f + S r
  rz : ∀ i, n - t + ys.length ≤ i + 1 → S r i = 0
  fz : ∀ i, i < n - t → S f i = 0
  fb : BdL (a + t * (b + 1)) f
  rb : BdL (a + t * (b + 1)) r
theorem QI.start {xs ys : List Int} {a b n : Nat} (hn : n = xs.length + 1 - ys.length) (ha : BdL a xs) : QI xs ys a b n 0 (List.replicate n 0) xs where
  fl := List.length_replicate
  rl := rfl
  eq := by rw [S_zeros]; grind
  rz := fun i hi => S_out (by omega)
  fz := fun i _ => by rw [S_zeros, zero_at]
  fb := fun x hx => by rw [(List.mem_replicate.mp hx).2]; exact Bd.zero
  rb := ha.mono (by omega)
theorem QI.step {xs ys : List Int} {a b n t : Nat} {f r : List Int} {v : Int} (h : QI xs ys a b n t f r) (ht : t < n) (hn : n = xs.length + 1 - ys.length) (hy : 0 < ys.length) (hb : BdL b ys)
    (hlc : S ys (ys.length - 1) ≠ 0) (hv : v * S ys (ys.length - 1) = S r (n - 1 - t + ys.length - 1)) :
    QI xs ys a b n (t + 1) (f.set (n - 1 - t) v) (lp (sbIn v ys (n - 1 - t)) ys.length r) := by
  have htb : Bd (a + t * (b + 1)) (S r (n - 1 - t + ys.length - 1)) := h.rb.at _
  have hvb : Bd (a + t * (b + 1)) v := by
    refine Nat.lt_of_le_of_lt ?_ htb
    rw [← hv, Int.natAbs_mul]
    exact Nat.le_mul_of_pos_right _ (Int.natAbs_pos.mpr hlc)
  rw [sbIn_eq]
  have hpl : n - 1 - t < f.length := by rw [h.fl]; omega
  have hf0 : f.getD (n - 1 - t) 0 = 0 := h.fz _ (by omega)
  have Sf : S (f.set (n - 1 - t) v) = S f + C v * X ^ (n - 1 - t) := by
    have e : v = f.getD (n - 1 - t) 0 + v := by rw [hf0, Int.zero_add]
    conv => lhs; rw [e]
    rw [S_set hpl]
  have rlen : n - 1 - t + ys.length ≤ r.length := by rw [h.rl]; omega
  have Sr : S (lp (tmIn (-v) ys (n - 1 - t)) ys.length r) = S r + C (-v) * X ^ (n - 1 - t) * S ys := by
    rw [S_row _ (Nat.le_refl _) rlen, List.take_length]
  refine ⟨?_, ?_, ?_, ?_, ?_, ?_, ?_⟩
  · rw [List.length_set, h.fl]
  · rw [lp_len (fun i a => tmIn_len _ _ _ _ _), h.rl]
  · rw [Sf, Sr, C_neg]
    have e := h.eq
    grind
  · intro i hi
    rw [Sr, add_at, C_X_at]
    by_cases e : n - t + ys.length ≤ i + 1
    · rw [h.rz i e, if_pos (by omega), S_out (xs := ys) (by omega), Int.mul_zero]; rfl
    · have ei : i = n - 1 - t + ys.length - 1 := by omega
      rw [if_pos (by omega), show i - (n - 1 - t) = ys.length - 1 by omega, ei, Int.neg_mul, hv]
      omega
  · intro i hi
    rw [Sf, add_at, S_one_at, if_neg (by omega), h.fz i (by omega)]; rfl
  · intro x hx
    rcases List.mem_or_eq_of_mem_set hx with hx | rfl
    · exact (show Bd _ _ from h.fb x hx).mono (by rw [Nat.succ_mul]; omega)
    · exact hvb.mono (by rw [Nat.succ_mul]; omega)
  · intro x hx
    obtain ⟨i, hi, rfl⟩ := List.getElem_of_mem hx
    have ex : (lp (tmIn (-v) ys (n - 1 - t)) ys.length r)[i] = S (lp (tmIn (-v) ys (n - 1 - t)) ys.length r) i := by
      rw [S_at, List.getD_eq_getElem?_getD, List.getElem?_eq_getElem hi]; rfl
    rw [ex, Sr, add_at, C_X_at]
    have h1 : Bd (a + t * (b + 1) + b) (S r i) := (show Bd _ _ from h.rb.at i).mono (by omega)
    have h2 : Bd (a + t * (b + 1) + b) (if n - 1 - t ≤ i then -v * S ys (i - (n - 1 - t)) else 0) := by
      split
      · exact (hvb.neg.mul (hb.at _)).mono (by omega)
      · exact Bd.zero
    exact (h1.add h2).mono (by rw [Nat.succ_mul]; omega)
theorem QI.no {xs ys : List Int} {a b n t : Nat} {f r : List Int} (h : QI xs ys a b n t f r) (ht : t < n) (htr : Tr ys) (hne : ys ≠ []) (hd : ¬ S ys (ys.length - 1) ∣ S r (n - 1 - t + ys.length - 1)) : ∀ q, ¬ Whole xs ys q := fun q hq => by
  have hy : 0 < ys.length := List.length_pos_iff.mpr hne
  have e : S ys * (S q - S f) = S r := by
    have a1 := h.eq
    have a2 := hq.2
    grind
  have ff : Fin (max q.length f.length) (S q - S f) := ((Fin.S q).mono (Nat.le_max_left _ _)).sub ((Fin.S f).mono (Nat.le_max_right _ _))
  rcases ff.cases with z | ⟨d, _, h1, h2⟩
  · refine hd ?_
    rw [← e, z]
    have : (S ys * 0 : Ser) = 0 := by grind
    rw [this, zero_at]; exact Int.dvd_zero _
  · have t1 := Fin.top (Fin.Sl hne) h2
    rw [e] at t1
    have hlt : d ≤ n - 1 - t := Nat.le_of_not_lt fun hlt => by
      have z := h.rz (ys.length - 1 + d) (by omega)
      rw [t1.1] at z
      exact Int.mul_ne_zero (S_top htr hne) h1 z
    by_cases hdd : d = n - 1 - t
    · refine hd ?_
      rw [show n - 1 - t + ys.length - 1 = ys.length - 1 + d by omega, t1.1]
      exact Int.dvd_mul_right _ _
    · refine hd ?_
      rw [t1.2 _ (by omega)]; exact Int.dvd_zero _
theorem QI.whole {xs ys : List Int} {a b n : Nat} {f r : List Int} (h : QI xs ys a b n n f r) (hr : trim r = []) : Whole xs ys (trim f) := ⟨tr_trim _, by
  have e : S r = 0 := by rw [← S_trim, hr, S_nil]
  rw [S_trim, h.eq, e]; grind⟩
theorem QI.nowhole {xs ys : List Int} {a b n : Nat} {f r : List Int} (h : QI xs ys a b n n f r) (htr : Tr ys) (hne : ys ≠ []) (hr : trim r ≠ []) : ∀ q, ¬ Whole xs ys q := fun q hq => by
  have hy : 0 < ys.length := List.length_pos_iff.mpr hne
  have e : S ys * (S q - S f) = S r := by
    have a1 := h.eq
    have a2 := hq.2
    grind
  have ff : Fin (max q.length f.length) (S q - S f) := ((Fin.S q).mono (Nat.le_max_left _ _)).sub ((Fin.S f).mono (Nat.le_max_right _ _))
  have z := mul_short ff (Fin.Sl hne) (S_top htr hne) (by rw [e]; exact fun i hi => h.rz i (by omega))
  refine hr (S_zero_nil (tr_trim r) ?_)
  rw [S_trim, ← e, z]; grind
end Pa

namespace Pa
open Ser

/-! ### numbers without divisors -/
def Pr (p : Nat) : Prop := 2 ≤ p ∧ ∀ d, d ∣ p → d = 1 ∨ d = p
theorem exists_pr : ∀ {n : Nat}, 2 ≤ n → ∃ p, Pr p ∧ p ∣ n
  | n, h => by
    by_cases hp : Pr n
    · exact ⟨n, hp, Nat.dvd_refl n⟩
    · have : ∃ d, d ∣ n ∧ d ≠ 1 ∧ d ≠ n := Classical.byContradiction fun z => hp ⟨h, fun d hd => Classical.byContradiction fun z2 => z ⟨d, hd, fun e => z2 (.inl e), fun e => z2 (.inr e)⟩⟩
      obtain ⟨d, hd, h1, h2⟩ := this
      have hle := Nat.le_of_dvd (by omega) hd
      have hd0 : d ≠ 0 := fun e => by rw [e] at hd; have := Nat.eq_zero_of_zero_dvd hd; omega
      obtain ⟨p, hp, hpd⟩ := exists_pr (n := d) (by omega)
      exact ⟨p, hp, Nat.dvd_trans hpd hd⟩
termination_by n => n
decreasing_by omega
theorem Pr.dvd_mul {p : Nat} (h : Pr p) {a b : Int} (hd : (p : Int) ∣ a * b) : (p : Int) ∣ a ∨ (p : Int) ∣ b := by
  by_cases ha : (p : Int) ∣ a
  · exact .inl ha
  · refine .inr (nat_dvd_of_coprime ?_ hd)
    rcases h.2 _ (Nat.gcd_dvd_left p a.natAbs) with e | e
    · exact e
    · exact absurd (Int.ofNat_dvd_left.mpr (by rw [← e]; exact Nat.gcd_dvd_right _ _)) ha

/-! ### the product of two rows without a common divisor -/
def Prim (f : Ser) : Prop := ∀ d : Nat, (∀ i, (d : Int) ∣ f i) → d = 1
theorem prim_of_cont {xs : List Int} (h : cont xs = 1) : Prim (S xs) := fun d hd => by
  have := dvd_cont (dvd_of_S hd)
  rw [h] at this
  exact Nat.dvd_one.mp this
theorem cont_of_prim {xs : List Int} (h : Prim (S xs)) : cont xs = 1 := h _ (dvd_S fun x hx => cont_dvd hx)
theorem top_nd {p : Nat} {f : Ser} : ∀ {n : Nat}, Fin n f → (¬ ∀ i, (p : Int) ∣ f i) → ∃ d, ¬ (p : Int) ∣ f d ∧ ∀ i, d < i → (p : Int) ∣ f i
  | 0, hf, h => absurd (fun i => by rw [hf i (Nat.zero_le _)]; exact Int.dvd_zero _) h
  | n + 1, hf, h => by
    by_cases hn : (p : Int) ∣ f n
    · have : ∃ d, ¬ (p : Int) ∣ f d ∧ ∀ i, d < i → i < n + 1 → (p : Int) ∣ f i := by
        have key : ∀ k, k ≤ n + 1 → (∀ i, k ≤ i → (p : Int) ∣ f i) → (∃ d, ¬ (p : Int) ∣ f d ∧ ∀ i, d < i → i < n + 1 → (p : Int) ∣ f i) := by
          intro k
          induction k with
          | zero => intro _ hk; exact absurd (fun i => hk i (Nat.zero_le _)) h
          | succ k ih =>
            intro hk1 hk
            by_cases hk2 : (p : Int) ∣ f k
            · exact ih (by omega) fun i hi => by
                by_cases e : i = k
                · rw [e]; exact hk2
                · exact hk i (by omega)
            · exact ⟨k, hk2, fun i hi _ => hk i (by omega)⟩
        exact key (n + 1) (Nat.le_refl _) fun i hi => by rw [hf i hi]; exact Int.dvd_zero _
      obtain ⟨d, h1, h2⟩ := this
      refine ⟨d, h1, fun i hi => ?_⟩
      by_cases hi2 : i < n + 1
      · exact h2 i hi hi2
      · rw [hf i (by omega)]; exact Int.dvd_zero _
    · exact ⟨n, hn, fun i hi => by rw [hf i (by omega)]; exact Int.dvd_zero _⟩
theorem dvd_C_mul {m : Int} {f : Ser} (i : Nat) : m ∣ (C m * f) i := by rw [C_mul]; exact Int.dvd_mul_right _ _
theorem gauss_pr {p : Nat} (hp : Pr p) {n m : Nat} {f g : Ser} (hf : Fin n f) (hg : Fin m g) (h : ∀ i, (p : Int) ∣ (f * g) i) : (∀ i, (p : Int) ∣ f i) ∨ (∀ i, (p : Int) ∣ g i) := by
  by_cases h1 : ∀ i, (p : Int) ∣ f i
  · exact .inl h1
  by_cases h2 : ∀ i, (p : Int) ∣ g i
  · exact .inr h2
  obtain ⟨d, d1, d2⟩ := top_nd hf h1
  obtain ⟨e, e1, e2⟩ := top_nd hg h2
  let f1 : Ser := fun i => if i ≤ d then f i else 0
  let g1 : Ser := fun i => if i ≤ e then g i else 0
  let f3 : Ser := fun i => if i ≤ d then 0 else f i / (p : Int)
  let g3 : Ser := fun i => if i ≤ e then 0 else g i / (p : Int)
  have ef : f = f1 + C (p : Int) * f3 := Ser.ext fun i => by
    rw [add_at, C_mul]
    show f i = (if i ≤ d then f i else 0) + (p : Int) * (if i ≤ d then 0 else f i / (p : Int))
    by_cases hi : i ≤ d
    · rw [if_pos hi, if_pos hi, Int.mul_zero, Int.add_zero]
    · rw [if_neg hi, if_neg hi, Int.zero_add, Int.mul_ediv_cancel' (d2 i (by omega))]
  have eg : g = g1 + C (p : Int) * g3 := Ser.ext fun i => by
    rw [add_at, C_mul]
    show g i = (if i ≤ e then g i else 0) + (p : Int) * (if i ≤ e then 0 else g i / (p : Int))
    by_cases hi : i ≤ e
    · rw [if_pos hi, if_pos hi, Int.mul_zero, Int.add_zero]
    · rw [if_neg hi, if_neg hi, Int.zero_add, Int.mul_ediv_cancel' (e2 i (by omega))]
  have F1 : Fin (d + 1) f1 := fun i hi => if_neg (by omega)
  have G1 : Fin (e + 1) g1 := fun i hi => if_neg (by omega)
  have hfg : f * g = f1 * g1 + C (p : Int) * (f3 * g + f1 * g3) := by
    have a1 := ef
    have a2 := eg
    grind
  have t := (Fin.top F1 G1).1
  have hd := h (d + e)
  rw [hfg, add_at] at hd
  have hd2 := (Int.dvd_add_left (dvd_C_mul (m := (p : Int)) (f := f3 * g + f1 * g3) (d + e))).mp hd
  rw [t] at hd2
  have q1 : f1 d = f d := if_pos (Nat.le_refl d)
  have q2 : g1 e = g e := if_pos (Nat.le_refl e)
  rw [q1, q2] at hd2
  rcases hp.dvd_mul hd2 with z | z
  · exact absurd z d1
  · exact absurd z e1
/-- what divides all numbers of a series, taken out -/
theorem take_out {m : Int} {n : Nat} {g : Ser} (hg : Fin n g) (h : ∀ i, m ∣ g i) : ∃ g3, g = C m * g3 ∧ Fin n g3 := by
  let g3 : Ser := fun i => g i / m
  refine ⟨g3, Ser.ext fun i => ?_, fun i hi => ?_⟩
  · rw [C_mul]
    exact (Int.mul_ediv_cancel' (h i)).symm
  · show g i / m = 0
    rw [hg i hi, Int.zero_ediv]
theorem gauss : ∀ {m : Nat}, 0 < m → ∀ {n k : Nat} {f g : Ser}, Fin n f → Fin k g → Prim f → (∀ i, (m : Int) ∣ (f * g) i) → ∀ i, (m : Int) ∣ g i
  | m, hm, n, k, f, g, hf, hg, hprim, h => by
    by_cases h1 : m = 1
    · intro i; rw [h1]; exact Int.one_dvd _
    · obtain ⟨p, hp, hpm⟩ := exists_pr (n := m) (by omega)
      obtain ⟨m', rfl⟩ := hpm
      have hp2 := hp.1
      have hm' : 0 < m' := Nat.pos_of_ne_zero fun z => by rw [z, Nat.mul_zero] at hm; exact absurd hm (Nat.lt_irrefl 0)
      have hlt : m' < p * m' := by
        have := Nat.mul_le_mul_right m' hp2
        omega
      have hpd : ∀ i, (p : Int) ∣ (f * g) i := fun i => Int.dvd_trans (by rw [Int.natCast_mul]; exact Int.dvd_mul_right _ _) (h i)
      rcases gauss_pr hp hf hg hpd with z | z
      · have := hprim p z; omega
      · obtain ⟨g3, e, hg3⟩ := take_out hg z
        have h3 : ∀ i, (m' : Int) ∣ (f * g3) i := fun i => by
          have a := h i
          rw [e, show f * (C (p : Int) * g3) = C (p : Int) * (f * g3) by grind, C_mul, Int.natCast_mul] at a
          exact Int.dvd_of_mul_dvd_mul_left (by omega) a
        have ih := gauss hm' hf hg3 hprim h3
        intro i
        rw [e, C_mul, Int.natCast_mul]
        exact Int.mul_dvd_mul_left _ (ih i)
termination_by m => m
decreasing_by all_goals (simp_wf; first | omega | assumption)
/-- d divides f, the quotient a row -/
def PD (d f : Ser) : Prop := ∃ n k, Fin n k ∧ f = d * k
theorem PD.zero (d : Ser) : PD d 0 := ⟨0, 0, Fin.zero 0, by grind⟩
theorem PD.refl (d : Ser) : PD d d := ⟨1, 1, by rw [one_eq]; exact Fin.C 1, by grind⟩
theorem PD.add {d f g : Ser} (hf : PD d f) (hg : PD d g) : PD d (f + g) := by
  obtain ⟨n, k, h1, e1⟩ := hf
  obtain ⟨m, l, h2, e2⟩ := hg
  exact ⟨max n m, k + l, (h1.mono (Nat.le_max_left _ _)).add (h2.mono (Nat.le_max_right _ _)), by grind⟩
theorem PD.mul {d f : Ser} {n : Nat} {g : Ser} (hf : PD d f) (hg : Fin n g) : PD d (f * g) := by
  obtain ⟨m, k, h1, e1⟩ := hf
  exact ⟨_, k * g, h1.mul hg, by grind⟩
theorem PD.C {d f : Ser} (m : Int) (hf : PD d f) : PD d (Ser.C m * f) := by
  obtain ⟨n, k, h1, e1⟩ := hf
  exact ⟨n, Ser.C m * k, h1.smul m, by grind⟩
/-- a divisor without a common number of all its numbers: numbers ahead go away -/
theorem PD.out {d f : Ser} {m : Int} {n : Nat} (hd : Fin n d) (hp : Prim d) (hm : m ≠ 0) (h : PD d (Ser.C m * f)) : PD d f := by
  obtain ⟨k, g, hg, e⟩ := h
  have hdv : ∀ i, (m.natAbs : Int) ∣ (d * g) i := fun i => by
    rw [← e, C_mul]
    exact Int.dvd_trans (Int.natAbs_dvd.mpr (Int.dvd_refl m)) (Int.dvd_mul_right _ _)
  have hg2 := gauss (Int.natAbs_pos.mpr hm) hd hg hp hdv
  obtain ⟨g3, e3, hg3⟩ := take_out (m := m) hg fun i => Int.natAbs_dvd.mp (hg2 i)
  refine ⟨k, g3, hg3, C_cancel hm ?_⟩
  rw [e, e3]; grind
end Pa

namespace Pa
open Ser

theorem ring1 (g N s : Ser) : g * (N * s) = g * N * s := by grind
theorem ring2 (a b c s : Ser) : a * b * c * s = a * b * (c * s) := by grind
theorem ring3 (g p q A B : Ser) : g * (p * A + q * B) = g * p * A + g * q * B := by grind
theorem ring4 {a b c : Ser} (h : a = b + c) : c = a - b := by grind
theorem ring5 (n n2 s m x x2 q : Ser) : n * n2 * (s * (m * x - x2 * q)) = s * m * n2 * (n * x) - s * n * q * (n2 * x2) := by grind
theorem ring6 (s m n2 n q u v u2 v2 A B : Ser) : s * m * n2 * (u * A + v * B) - s * n * q * (u2 * A + v2 * B) = (s * m * n2 * u - s * n * q * u2) * A + (s * m * n2 * v - s * n * q * v2) * B := by grind
/-! ### combinations -/
structure Cb (A B x u v : List Int) (n : Int) : Prop where
  n1 : 1 ≤ n
  eq : C n * S x = S u * S A + S v * S B
  xt : Tr x
  ut : Tr u
  vt : Tr v
  sm : x ≠ [] → cont x = 1 ∧ 0 < x.getLast?.getD 0
theorem sgn_fdiv {c : Int} (h : c ≠ 0) : c.fdiv (c.natAbs : Int) = if c < 0 then -1 else 1 := by
  split
  · have e : c = (c.natAbs : Int) * -1 := by omega
    conv => lhs; arg 1; rw [e]
    exact Int.mul_fdiv_cancel_left _ (by omega)
  · have e : c = (c.natAbs : Int) * 1 := by omega
    conv => lhs; arg 1; rw [e]
    exact Int.mul_fdiv_cancel_left _ (by omega)
def sgnr (xs : List Int) : Int := if sgc xs < 0 then -1 else 1
theorem sgnr_sq (xs : List Int) : sgnr xs * sgnr xs = 1 := by unfold sgnr; split <;> rfl
theorem sgc_sgnr (xs : List Int) : sgc xs = sgnr xs * (cont xs : Int) := by
  have h := sgc_abs xs
  unfold sgnr
  split <;> omega
theorem cont_simp {r : List Int} (ht : Tr r) : C (cont r : Int) * S (simp' r) = C (sgnr r) * S r := by
  have e := S_simp ht
  rw [sgc_sgnr, C_mulC] at e
  have e2 : C (sgnr r) * C (sgnr r) = (1 : Ser) := by rw [← C_mulC, sgnr_sq]; rfl
  rw [← e]
  grind
theorem Cb.step {A B x u v x2 u2 v2 q r : List Int} {n n2 m N g : Int} (h : Cb A B x u v n) (t : Cb A B x2 u2 v2 n2) (d : Dv x x2 m q r) (hr : r ≠ []) {ones others : List Int}
    (e1 : ones = minus (scaled u (sgnr r * m * n2)) (tm (scaled q (sgnr r * n)) u2)) (e2 : others = minus (scaled v (sgnr r * m * n2)) (tm (scaled q (sgnr r * n)) v2)) (eN : N = n * n2 * (cont r : Int))
    (hg : g ≠ 0) (g1 : ∀ y ∈ ones, g ∣ y) (g2 : ∀ y ∈ others, g ∣ y) (g3 : g ∣ N) (gp : 0 < g) : Cb A B (simp' r) (divBy ones g) (divBy others g) (N.fdiv g) := by
  have hcp := cont_pos d.rt hr
  have hN : 1 ≤ N := by
    rw [eN]
    have a1 := h.n1
    have a2 := t.n1
    have a3 : (1 : Int) ≤ (cont r : Int) := by omega
    have a4 : 0 < n * n2 := Int.mul_pos (by omega) (by omega)
    have := Int.mul_pos a4 (show (0 : Int) < (cont r : Int) by omega)
    omega
  refine ⟨?_, ?_, simp_tr d.rt, divBy_tr hg g1 (by rw [e1]; exact minus_tr _ _), divBy_tr hg g2 (by rw [e2]; exact minus_tr _ _), fun _ => ⟨simp_cont d.rt hr, ?_⟩⟩
  · have e := fdiv_of_dvd hg g3
    refine Int.not_lt.mp fun z => ?_
    have := Int.mul_nonpos_of_nonneg_of_nonpos (Int.le_of_lt gp) (show N.fdiv g ≤ 0 by omega)
    omega
  · refine C_cancel hg ?_
    have s1 := S_divBy hg g1
    have s2 := S_divBy hg g2
    have s3 : C g * C (N.fdiv g) = C N := by rw [← C_mulC, fdiv_of_dvd hg g3]
    have s4 := cont_simp d.rt
    have s5 : S ones = C (sgnr r) * C m * C n2 * S u - C (sgnr r) * C n * S q * S u2 := by
      rw [e1, S_minus, S_scaled, S_tm, S_scaled, C_mulC, C_mulC, C_mulC]
    have s6 : S others = C (sgnr r) * C m * C n2 * S v - C (sgnr r) * C n * S q * S v2 := by
      rw [e2, S_minus, S_scaled, S_tm, S_scaled, C_mulC, C_mulC, C_mulC]
    have s7 : C N = C n * C n2 * C (cont r : Int) := by rw [eN, C_mulC, C_mulC]
    have b1 := h.eq
    have b2 := t.eq
    have b3 := d.eq
    rw [ring1, s3, s7, ring2, s4, ring4 b3, ring5, b1, b2, ring3 (C g), s1, s2, s5, s6, ring6]
  · have := simp_last d.rt hr
    rw [List.getLast?_eq_some_getLast (simp_ne hr)]
    exact this
/-! ### common divisors, backwards -/
theorem PD.back {x x2 q r : List Int} {m : Int} {d : Ser} {n : Nat} (hd : Fin n d) (hp : Prim d) (dv : Dv x x2 m q r) (h2 : PD d (S x2)) (hr : PD d (S (simp' r))) : PD d (S x) := by
  refine PD.out hd hp (show m ≠ 0 by have := dv.m1; omega) ?_
  rw [dv.eq]
  refine (h2.mul (Fin.S q)).add ?_
  rw [← S_simp dv.rt]
  exact hr.C _
/-- what is asked of the divisors that two rows share -/
def Sh (A B x y : List Int) : Prop := ∀ (n : Nat) (d : Ser), Fin n d → Prim d → PD d (S x) → PD d (S y) → PD d (S A) ∧ PD d (S B)
theorem Sh.start {A B : List Int} (ha : Tr A) (hb : Tr B) : Sh A B (simp' A) (simp' B) := fun n d _ _ h1 h2 => ⟨by rw [← S_simp ha]; exact h1.C _, by rw [← S_simp hb]; exact h2.C _⟩
theorem Sh.step {A B x x2 q r : List Int} {m : Int} (h : Sh A B x x2) (dv : Dv x x2 m q r) : Sh A B x2 (simp' r) := fun n d hd hp h1 h2 => h n d hd hp (PD.back hd hp dv h1 h2) h1
theorem Sh.end' {A B x : List Int} (h : Sh A B x []) (hx : cont x = 1) : PD (S x) (S A) ∧ PD (S x) (S B) :=
  h _ _ (Fin.S x) (prim_of_cont hx) (PD.refl _) (by rw [S_nil]; exact PD.zero _)
theorem PD.whole {A x : List Int} (h : PD (S x) (S A)) : ∃ s, Whole A x s := by
  obtain ⟨n, k, hk, e⟩ := h
  obtain ⟨s, h1, h2, _⟩ := hk.row
  exact ⟨s, h1, by rw [h2]; exact e⟩
/-- a common divisor divides what a combination tells -/
theorem Cb.common {A B x u v : List Int} {n : Int} (h : Cb A B x u v n) {d : Ser} {k : Nat} (hd : Fin k d) (hp : Prim d) (ha : PD d (S A)) (hb : PD d (S B)) : PD d (S x) := by
  refine PD.out hd hp (show n ≠ 0 by have := h.n1; omega) ?_
  rw [h.eq, mul_comm' (S u), mul_comm' (S v)]
  exact (ha.mul (Fin.S u)).add (hb.mul (Fin.S v))
end Pa

namespace Pa
/-! ### how great the numbers of a remainder sequence get -/
/-- 2.5 to the s, times 2 to the 12 -/
def wt (s : Nat) : Nat := 5 ^ s * 2 ^ (12 - s)
theorem wt_step0 : ∀ s, s < 13 → ∀ d, d < 14 → 2 ≤ d → s + d ≤ 13 → wt s * (2 * d + 1) ≤ 2 * wt (s + d - 1) := by decide +kernel
theorem wt_step {s d : Nat} (h2 : 2 ≤ d) (h : s + d ≤ 13) : wt s * (2 * d + 1) ≤ 2 * wt (s + d - 1) := wt_step0 s (by omega) d (by omega) h2 h
theorem wt_two0 : ∀ s, s < 13 → ∀ e, e < 13 → s < e → 2 * wt s ≤ wt e := by decide +kernel
theorem wt_two {s e : Nat} (h : s < e) (he : e < 13) : 2 * wt s ≤ wt e := wt_two0 s (by omega) e he h
theorem wt_first0 : ∀ d, d < 14 → 2 ≤ d → ∀ s, s < 13 → d - 1 ≤ s → 4096 * (d + 1) ≤ 2 * wt s := by decide +kernel
theorem wt_mono0 : ∀ s, s < 13 → ∀ e, e < 13 → s ≤ e → wt s ≤ wt e := by decide +kernel
/-- the rows' bits and one: here's at most half of what there's may be -/
structure Gr (B lh ah at' : Nat) : Prop where
  len : 1 ≤ lh ∧ lh ≤ 13
  t : 4096 * at' ≤ 2 * B * wt (13 - lh)
  h : 4096 * (2 * ah) ≤ 2 * B * wt (13 - lh)
theorem Gr.step {B lh lt ah at' : Nat} (g : Gr B lh ah at') (h1 : 1 ≤ lt) (h2 : lt < lh) : Gr B lt at' (ah + (lh + 1 - lt) * at') := by
  obtain ⟨⟨g1, g2⟩, gt, gh⟩ := g
  refine ⟨⟨h1, by omega⟩, ?_, ?_⟩
  · obtain ⟨d, hd⟩ : ∃ d, d = lh + 1 - lt := ⟨_, rfl⟩
    rw [← hd]
    have w := wt_step (s := 13 - lh) (d := d) (by omega) (by omega)
    rw [show 13 - lh + d - 1 = 13 - lt by omega] at w
    have e1 : 4096 * (ah + d * at') * 2 = 4096 * (2 * ah) + 2 * d * (4096 * at') := by
      rw [Nat.mul_add, Nat.add_mul]
      have : 4096 * (d * at') * 2 = 2 * d * (4096 * at') := by
        clear gt gh w
        grind
      omega
    have e2 := Nat.mul_le_mul_left (2 * d) gt
    have e3 := Nat.mul_le_mul_left (2 * B) w
    have e4 : 2 * d * (2 * B * wt (13 - lh)) + 2 * B * wt (13 - lh) = 2 * B * (wt (13 - lh) * (2 * d + 1)) := by
      rw [Nat.mul_add, Nat.mul_one, Nat.mul_add]
      simp [Nat.mul_comm, Nat.mul_left_comm]
    have e5 : 2 * B * (2 * wt (13 - lt)) = 2 * (2 * B * wt (13 - lt)) := by
      simp [Nat.mul_comm, Nat.mul_left_comm]
    omega
  · have w := wt_two (s := 13 - lh) (e := 13 - lt) (by omega) (by omega)
    have e3 := Nat.mul_le_mul_left (2 * B) w
    have e5 : 2 * B * (2 * wt (13 - lh)) = 2 * (2 * B * wt (13 - lh)) := by
      simp [Nat.mul_comm, Nat.mul_left_comm]
    omega
end Pa

namespace Pa
/-! ### bits of meet's turns -/
/-- bits: of the rows, of ones and others, of the numbers -/
structure BhB (L1 L2 A1 A2 c1 c2 d1 d2 : Nat) : Prop where
  l : L1 ≤ 40 ∧ L2 ≤ 40
  b1 : A1 + (L1 + 2 - L2) * (A2 + 1) + A2 + 1 ≤ 134217728
  b2 : (L1 + 1 - L2) * A2 + 1 + d2 + c1 ≤ 134217728
  b3 : A1 + (L1 + 1 - L2) * (A2 + 1) + d1 + c2 ≤ 134217728
  b4 : d1 + d2 + (A1 + (L1 + 1 - L2) * (A2 + 1)) ≤ 134217728
def nA (L1 L2 A1 A2 : Nat) : Nat := A1 + (L1 + 1 - L2) * (A2 + 1)
def nC (L1 L2 A1 A2 c1 c2 d1 d2 : Nat) : Nat := max ((L1 + 1 - L2) * A2 + 1 + d2 + c1) (nA L1 L2 A1 A2 + d1 + c2 + 6) + 1
def nD (L1 L2 A1 A2 d1 d2 : Nat) : Nat := d1 + d2 + nA L1 L2 A1 A2
/-- meet may go on from here; E is kept of what it ends with -/
inductive Go (E : Nat → Nat → Nat → Nat → Prop) : Nat → Nat → Nat → Nat → Nat → Nat → Nat → Nat → Prop
  | mk {L1 L2 A1 A2 c1 c2 d1 d2 : Nat} : BhB L1 L2 A1 A2 c1 c2 d1 d2 → E L2 A2 c2 d2 → (∀ L, 1 ≤ L → L < L2 → Go E L2 L A2 (nA L1 L2 A1 A2) c2 (nC L1 L2 A1 A2 c1 c2 d1 d2) d2 (nD L1 L2 A1 A2 d1 d2)) → Go E L1 L2 A1 A2 c1 c2 d1 d2
/-- what meet ends with, of bits -/
def EE (L A c d : Nat) : Prop := 1 ≤ L ∧ L ≤ 13 ∧ ∃ a, A + 1 ≤ a ∧ 4096 * a ≤ 356 * wt (12 - L) ∧ c ≤ 4 * a ∧ d ≤ 4 * a
theorem wt_top : ∀ s, s < 13 → wt s ≤ 244140625 := by decide +kernel
theorem Go.of : ∀ lt lh ah at' A1 A2 c1 c2 d1 d2 : Nat, 1 ≤ lt → lt < lh → Gr 178 lh ah at' → 2 * ah ≤ at' → 16 ≤ ah → A1 + 1 ≤ ah → A2 + 1 ≤ at' → c1 ≤ 4 * ah → c2 ≤ 4 * at' → d1 ≤ 4 * ah → d2 ≤ 4 * at' → Go EE lh lt A1 A2 c1 c2 d1 d2 := by
  intro lt
  induction lt using Nat.strongRecOn with
  | _ lt ih =>
    intro lh ah at' A1 A2 c1 c2 d1 d2 h1 h2 g hab h16 hA1 hA2 hc1 hc2 hd1 hd2
    have g' := g.step h1 h2
    obtain ⟨d, hd⟩ : ∃ d, d = lh + 1 - lt := ⟨_, rfl⟩
    have hlt := g'.len
    have hlh := g.len
    rw [← hd] at g'
    have hd2' : 2 ≤ d := by omega
    have m1 : d * (A2 + 1) ≤ d * at' := Nat.mul_le_mul_left d hA2
    have m2 : 2 * at' ≤ d * at' := Nat.mul_le_mul_right at' hd2'
    have m3 : d * (A2 + 1) = d * A2 + d := Nat.mul_succ d A2
    have m4 : (lh + 2 - lt) * (A2 + 1) = d * (A2 + 1) + (A2 + 1) := by
      rw [show lh + 2 - lt = d + 1 by omega, Nat.succ_mul]
    have top := g'.t
    have w := wt_top (13 - lt) (by omega)
    have hE : EE lt A2 c2 d2 := by
      refine ⟨h1, by omega, at', hA2, ?_, hc2, hd2⟩
      have t := g.t
      have w2 := wt_mono0 (13 - lh) (by omega) (12 - lt) (by omega) (by omega)
      have := Nat.mul_le_mul_left (2 * 178) w2
      omega
    have w3 := Nat.mul_le_mul_left (2 * 178) w
    refine .mk ⟨by omega, ?_, ?_, ?_, ?_⟩ hE fun L k1 k2 => ?_
    · rw [m4]; omega
    · rw [← hd]; omega
    · rw [← hd]; omega
    · rw [← hd]; omega
    · refine ih L k2 lt at' (ah + d * at') A2 _ c2 _ d2 _ k1 k2 g' (by omega) (by omega) hA2 ?_ hc2 ?_ hd2 ?_
      · unfold nA; rw [← hd]; omega
      · unfold nC nA; rw [← hd]; omega
      · unfold nD nA; rw [← hd]; omega
theorem wt_low : ∀ s, s < 13 → 4096 ≤ wt s := by decide +kernel
theorem wt_low6 : ∀ s, s < 13 → 6 ≤ s → 1000000 ≤ wt s := by decide +kernel
theorem Go.start {L1 L2 A1 A2 B : Nat} (hB : (L1 ≤ 13 ∧ L2 ≤ 13 ∧ B ≤ 178) ∨ (L1 ≤ 7 ∧ L2 ≤ 7 ∧ B ≤ 300)) (h16 : 16 ≤ B) (hA1 : A1 + 1 ≤ B) (hA2 : A2 + 1 ≤ B) (h2 : 1 ≤ L2) : Go EE L1 L2 A1 A2 1 1 A1 A2 := by
  obtain ⟨d, hd⟩ : ∃ d, d = L1 + 1 - L2 := ⟨_, rfl⟩
  have hdl : d ≤ 13 := by omega
  have hB3 : B ≤ 300 := by omega
  have m1 : d * (A2 + 1) ≤ d * B := Nat.mul_le_mul_left d hA2
  have m2 : d * B ≤ 13 * 300 := Nat.mul_le_mul hdl hB3
  have m3 : d * (A2 + 1) = d * A2 + d := Nat.mul_succ d A2
  have m4 : (L1 + 2 - L2) * (A2 + 1) ≤ 14 * 300 := Nat.mul_le_mul (by omega) (by omega)
  have m5 : (d + 1) * B = d * B + B := Nat.succ_mul d B
  have w0 := wt_low (13 - L2) (by omega)
  have w1 := wt_low (12 - L2) (by omega)
  refine .mk ⟨by omega, by omega, by rw [← hd]; omega, by rw [← hd]; omega, by rw [← hd]; omega⟩ ⟨h2, by omega, B, hA2, by omega, by omega, by omega⟩ fun L k1 k2 => ?_
  have hg : Gr 178 L2 B (max (2 * B) ((d + 1) * B)) := by
    have w2 : L2 ≤ 7 → 1000000 ≤ wt (13 - L2) := fun h => wt_low6 _ (by omega) (by omega)
    have w3 : 4096 * (2 * B) ≤ 2 * 178 * wt (13 - L2) := by
      rcases hB with ⟨b1, b2, b3⟩ | ⟨b1, b2, b3⟩
      · omega
      · have := w2 b2
        omega
    refine ⟨by omega, ?_, w3⟩
    by_cases hd1 : d ≤ 1
    · have : (d + 1) * B ≤ 2 * B := Nat.mul_le_mul_right B (by omega)
      omega
    · have e1 : max (2 * B) ((d + 1) * B) = (d + 1) * B := by
        have : 2 * B ≤ (d + 1) * B := Nat.mul_le_mul_right B (by omega)
        omega
      rw [e1]
      rcases hB with ⟨b1, b2, b3⟩ | ⟨b1, b2, b3⟩
      · have f := wt_first0 d (by omega) (by omega) (13 - L2) (by omega) (by omega)
        have f2 := Nat.mul_le_mul_right B f
        have f3 := Nat.mul_le_mul_left (2 * wt (13 - L2)) b3
        have f4 : 4096 * ((d + 1) * B) = 4096 * (d + 1) * B := (Nat.mul_assoc _ _ _).symm
        omega
      · have := w2 b2
        omega
  refine Go.of L L2 B (max (2 * B) ((d + 1) * B)) A2 _ 1 _ A2 _ k1 k2 hg (by omega) h16 hA2 ?_ (by omega) ?_ (by omega) ?_
  · unfold nA; rw [← hd]; omega
  · unfold nC nA; rw [← hd]; omega
  · unfold nD nA; rw [← hd]; omega
/-! ### what shared, begun and behind tell -/
def shBy (xs ys : List Int) (m : Int) : Int := ((Nat.gcd m.natAbs (Nat.gcd (cont xs) (cont ys)) : Nat) : Int)
theorem shBy_ne {xs ys : List Int} {m : Int} (hm : 1 ≤ m) : shBy xs ys m ≠ 0 := by
  unfold shBy
  have := Nat.gcd_pos_of_pos_left (Nat.gcd (cont xs) (cont ys)) (show 0 < m.natAbs by omega)
  omega
def sgnc (xs : List Int) : Int := if sgc xs < 0 then -1 else 1
def bgU (first : Bool) (xs : List Int) : List Int := if xs = [] then [] else if first = true then [sgnc xs] else []
def bgN (xs : List Int) : Int := if xs = [] then 1 else (cont xs : Int)
/-- what behind tells -/
def Bh (x u v x2 u2 v2 : List Int) (n n2 m : Int) (q r x' u' v' : List Int) (n' : Int) : Prop :=
  (r = [] ∧ x' = [] ∧ u' = [] ∧ v' = [] ∧ n' = 1) ∨
  (r ≠ [] ∧ ∃ ones others N, ones = minus (scaled u (sgnr r * m * n2)) (tm (scaled q (sgnr r * n)) u2) ∧ others = minus (scaled v (sgnr r * m * n2)) (tm (scaled q (sgnr r * n)) v2) ∧ N = n * n2 * (cont r : Int) ∧
    x' = simp' r ∧ u' = divBy ones (shBy ones others N) ∧ v' = divBy others (shBy ones others N) ∧ n' = N.fdiv (shBy ones others N))
theorem shBy_pos {xs ys : List Int} {m : Int} (hm : 1 ≤ m) : 0 < shBy xs ys m := by
  unfold shBy
  have := Nat.gcd_pos_of_pos_left (Nat.gcd (cont xs) (cont ys)) (show 0 < m.natAbs by omega)
  omega
theorem shBy_m (xs ys : List Int) (m : Int) : shBy xs ys m ∣ m := by
  unfold shBy
  exact Int.ofNat_dvd_left.mpr (Nat.gcd_dvd_left _ _)
theorem shBy_x {xs ys : List Int} {m : Int} : ∀ y ∈ xs, shBy xs ys m ∣ y := fun y hy => by
  unfold shBy
  exact Int.dvd_trans (Int.natCast_dvd_natCast.mpr (Nat.dvd_trans (Nat.gcd_dvd_right _ _) (Nat.gcd_dvd_left _ _))) (cont_dvd hy)
theorem shBy_y {xs ys : List Int} {m : Int} : ∀ y ∈ ys, shBy xs ys m ∣ y := fun y hy => by
  unfold shBy
  exact Int.dvd_trans (Int.natCast_dvd_natCast.mpr (Nat.dvd_trans (Nat.gcd_dvd_right _ _) (Nat.gcd_dvd_right _ _))) (cont_dvd hy)
theorem Bd.fdiv {a : Nat} {m g : Int} (h : Bd a m) (hg : g ≠ 0) (hd : g ∣ m) : Bd a (m.fdiv g) := by
  have e := fdiv_of_dvd hg hd
  have e2 : g.natAbs * (m.fdiv g).natAbs = m.natAbs := by rw [← Int.natAbs_mul, e]
  have : 1 * (m.fdiv g).natAbs ≤ g.natAbs * (m.fdiv g).natAbs := Nat.mul_le_mul_right _ (by omega)
  show (m.fdiv g).natAbs < 2 ^ a
  have h' : m.natAbs < 2 ^ a := h
  omega
theorem Bd.sgnr {a : Nat} {m : Int} (r : List Int) (h : Bd a m) : Bd a (sgnr r * m) := by
  unfold Pa.sgnr
  split
  · rw [show (-1 : Int) * m = -m by omega]; exact h.neg
  · rw [Int.one_mul]; exact h
theorem Cb.nil (A B : List Int) : Cb A B [] [] [] 1 := ⟨by decide, by rw [S_nil]; grind, tr_nil, tr_nil, tr_nil, fun h => absurd rfl h⟩
theorem tr_one {a : Int} (h : a ≠ 0) : Tr [a] := tr_of_last (ys := []) h
theorem sgnr_ne (xs : List Int) : sgnr xs ≠ 0 := by unfold sgnr; split <;> decide
theorem Cb.begunL {A : List Int} (B : List Int) (hA : Tr A) : Cb A B (simp' A) (bgU true A) (bgU false A) (bgN A) := by
  unfold bgU bgN
  by_cases h : A = []
  · subst h; rw [if_pos rfl, if_pos rfl, if_pos rfl]; exact Cb.nil _ _
  · rw [if_neg h, if_neg h, if_neg h, if_pos rfl, if_neg (by decide)]
    have hc := cont_pos hA h
    refine ⟨by omega, ?_, simp_tr hA, tr_one (sgnr_ne A), tr_nil, fun _ => ⟨simp_cont hA h, ?_⟩⟩
    · rw [cont_simp hA, S_one, S_nil, show sgnc A = sgnr A from rfl]; grind
    · have := simp_last hA h
      rw [List.getLast?_eq_some_getLast (simp_ne h)]
      exact this
theorem Cb.begunR {B : List Int} (A : List Int) (hB : Tr B) : Cb A B (simp' B) (bgU false B) (bgU true B) (bgN B) := by
  unfold bgU bgN
  by_cases h : B = []
  · subst h; rw [if_pos rfl, if_pos rfl, if_pos rfl]; exact Cb.nil _ _
  · rw [if_neg h, if_neg h, if_neg h, if_pos rfl, if_neg (by decide)]
    have hc := cont_pos hB h
    refine ⟨by omega, ?_, simp_tr hB, tr_nil, tr_one (sgnr_ne B), fun _ => ⟨simp_cont hB h, ?_⟩⟩
    · rw [cont_simp hB, S_one, S_nil, show sgnc B = sgnr B from rfl]; grind
    · have := simp_last hB h
      rw [List.getLast?_eq_some_getLast (simp_ne h)]
      exact this
theorem bgU_bd (b : Bool) (xs : List Int) : BdL 1 (bgU b xs) := by
  unfold bgU
  split
  · exact BdL.nil
  · split
    · intro y hy
      rw [List.mem_singleton.mp hy]
      unfold sgnc
      split <;> decide
    · exact BdL.nil
theorem bgU_len (b : Bool) (xs : List Int) : (bgU b xs).length ≤ 1 := by
  unfold bgU
  split
  · exact Nat.zero_le _
  · split
    · exact Nat.le_refl _
    · exact Nat.zero_le _
theorem bgN_bd {a : Nat} {xs : List Int} (ha : 1 ≤ a) (h : BdL a xs) : Bd a (bgN xs) := by
  unfold bgN
  split
  · exact Bd.mono (a := 1) (by unfold Bd; decide) ha
  · have := cont_bd h
    show ((cont xs : Int)).natAbs < 2 ^ a
    rw [Int.natAbs_natCast]
    exact this
/-- what one turn keeps -/
theorem Bh.bd {x u v x2 u2 v2 : List Int} {n n2 m : Int} {q r x' u' v' : List Int} {n' : Int} {A1 A2 c1 c2 d1 d2 K : Nat} (h : Bh x u v x2 u2 v2 n n2 m q r x' u' v' n') (hr : r ≠ []) (hd : Dv x x2 m q r) (hn : 1 ≤ n ∧ 1 ≤ n2)
    (hl : x.length ≤ 40 ∧ x2.length ≤ 40 ∧ x2 ≠ []) (hq : q.length ≤ x.length + 1 - x2.length) (kl : u.length ≤ K ∧ v.length ≤ K ∧ u2.length ≤ K ∧ v2.length ≤ K)
    (hb : BdL c1 u ∧ BdL c1 v ∧ BdL c2 u2 ∧ BdL c2 v2 ∧ Bd d1 n ∧ Bd d2 n2)
    (b1 : Bd ((x.length + 1 - x2.length) * A2 + 1) m) (b2 : BdL (nA x.length x2.length A1 A2) q) (b3 : BdL (nA x.length x2.length A1 A2) r) :
    x' = simp' r ∧ BdL (nA x.length x2.length A1 A2) x' ∧ BdL (nC x.length x2.length A1 A2 c1 c2 d1 d2) u' ∧ BdL (nC x.length x2.length A1 A2 c1 c2 d1 d2) v' ∧ Bd (nD x.length x2.length A1 A2 d1 d2) n' ∧ (u'.length ≤ K + 40 ∧ v'.length ≤ K + 40) := by
  obtain ⟨h1, h2⟩ | ⟨_, ones, others, N, e1, e2, eN, ex, eu, ev, en⟩ := h
  · exact absurd h1 hr
  have hcp := cont_pos hd.rt hr
  have hN : 1 ≤ N := by
    rw [eN]
    have a4 : 0 < n * n2 := Int.mul_pos (by omega) (by omega)
    have := Int.mul_pos a4 (show (0 : Int) < (cont r : Int) by omega)
    omega
  obtain ⟨hu, hv, hu2, hv2, hdn, hdn2⟩ := hb
  have hx2 : 1 ≤ x2.length := List.length_pos_iff.mpr hl.2.2
  have g0 := shBy_ne (xs := ones) (ys := others) hN
  have bN : Bd (nD x.length x2.length A1 A2 d1 d2) N := by
    rw [eN]
    refine (hdn.mul hdn2).mul ?_
    have := cont_bd b3
    show ((cont r : Int)).natAbs < _
    rw [Int.natAbs_natCast]
    exact this
  have qs : BdL (nA x.length x2.length A1 A2 + d1) (scaled q (sgnr r * n)) := (scaled_bd b2 (hdn.sgnr r)).mono (by omega)
  have ql : (scaled q (sgnr r * n)).length ≤ 2 ^ 6 := Nat.le_trans (scaled_len _ _) (by omega)
  have up : Bd ((x.length + 1 - x2.length) * A2 + 1 + d2) (sgnr r * m * n2) := (b1.sgnr r).mul hdn2
  have bo : ∀ w w2 : List Int, BdL c1 w → BdL c2 w2 → BdL (nC x.length x2.length A1 A2 c1 c2 d1 d2) (minus (scaled w (sgnr r * m * n2)) (tm (scaled q (sgnr r * n)) w2)) := fun w w2 hw hw2 => by
    unfold nC
    refine minus_bd ((scaled_bd hw up).mono ?_) ((tm_bd qs hw2 ql).mono ?_)
    · exact Nat.le_trans (Nat.le_refl _) (Nat.le_max_left _ _)
    · exact Nat.le_trans (by omega) (Nat.le_max_right _ _)
  have bl : ∀ w w2 : List Int, w.length ≤ K → w2.length ≤ K → (minus (scaled w (sgnr r * m * n2)) (tm (scaled q (sgnr r * n)) w2)).length ≤ K + 40 := fun w w2 hw hw2 => by
    have l1 := minus_len (scaled w (sgnr r * m * n2)) (tm (scaled q (sgnr r * n)) w2)
    have l2 := scaled_len w (sgnr r * m * n2)
    have l3 := tm_len (scaled q (sgnr r * n)) w2
    have l4 := scaled_len q (sgnr r * n)
    omega
  refine ⟨ex, by rw [ex]; exact simp_bd hd.rt b3, ?_, ?_, ?_, ?_, ?_⟩
  · rw [eu]; exact divBy_bd g0 shBy_x (by rw [e1]; exact bo _ _ hu hu2)
  · rw [ev]; exact divBy_bd g0 shBy_y (by rw [e2]; exact bo _ _ hv hv2)
  · rw [en]; exact bN.fdiv g0 (shBy_m _ _ _)
  · rw [eu, divBy_len, e1]; exact bl _ _ kl.1 kl.2.2.1
  · rw [ev, divBy_len, e2]; exact bl _ _ kl.2.1 kl.2.2.2
theorem Bh.cb {A B x u v x2 u2 v2 : List Int} {n n2 m : Int} {q r x' u' v' : List Int} {n' : Int} (h : Bh x u v x2 u2 v2 n n2 m q r x' u' v' n') (h1 : Cb A B x u v n) (h2 : Cb A B x2 u2 v2 n2) (hd : Dv x x2 m q r) : Cb A B x' u' v' n' := by
  obtain ⟨_, rfl, rfl, rfl, rfl⟩ | ⟨hr, ones, others, N, e1, e2, eN, ex, eu, ev, en⟩ := h
  · exact Cb.nil _ _
  have hcp := cont_pos hd.rt hr
  have hN : 1 ≤ N := by
    rw [eN]
    have a1 := h1.n1
    have a2 := h2.n1
    have a4 : 0 < n * n2 := Int.mul_pos (by omega) (by omega)
    have := Int.mul_pos a4 (show (0 : Int) < (cont r : Int) by omega)
    omega
  rw [ex, eu, ev, en]
  exact h1.step h2 hd hr e1 e2 eN (shBy_ne hN) shBy_x shBy_y (shBy_m _ _ _) (shBy_pos hN)
theorem Bh.sh {A B x u v x2 u2 v2 : List Int} {n n2 m : Int} {q r x' u' v' : List Int} {n' : Int} (h : Bh x u v x2 u2 v2 n n2 m q r x' u' v' n') (hs : Sh A B x x2) (hd : Dv x x2 m q r) : Sh A B x2 x' := by
  have e : x' = simp' r := by
    obtain ⟨rfl, rfl, _⟩ | ⟨_, _, _, _, _, _, _, ex, _⟩ := h
    · rfl
    · exact ex
  rw [e]
  exact hs.step hd
/-- what meet tells -/
structure Mt (A B x s t u v : List Int) (n : Int) : Prop where
  cb : Cb A B x u v n
  ne : x ≠ []
  w1 : Whole A x s
  w2 : Whole B x t
end Pa
namespace Pa
open Ser
theorem tr_map_mul {xs : List Int} {n : Int} (hn : n ≠ 0) (h : Tr xs) : Tr (xs.map fun x => n * x) := by
  rcases snoc_cases xs with rfl | ⟨ys, y, rfl⟩
  · exact tr_nil
  · have hy : y ≠ 0 := by simpa using tr_last h (by simp)
    rw [List.map_append]
    exact tr_of_last (Int.mul_ne_zero hn hy)
theorem sgc_self {xs : List Int} (h : cont xs = 1) (hl : 0 < xs.getLast?.getD 0) : sgc xs = 1 := by
  unfold sgc
  rw [if_neg (by omega), h]; rfl
theorem simp_self {xs : List Int} (h : cont xs = 1) (hl : 0 < xs.getLast?.getD 0) : simp' xs = xs := by
  unfold simp' divBy
  rw [sgc_self h hl]
  conv => rhs; rw [← List.map_id xs]
  refine List.map_congr_left fun x _ => ?_
  exact Int.fdiv_one x
theorem Mt.first {A B x s t u v : List Int} {n : Int} (h : Mt A B x s t u v n) (ha : Tr A) : tm x s = A := S_inj (tm_tr _ _) ha (by rw [S_tm, h.w1.2])
theorem Mt.second {A B x s t u v : List Int} {n : Int} (h : Mt A B x s t u v n) (hb : Tr B) : tm x t = B := S_inj (tm_tr _ _) hb (by rw [S_tm, h.w2.2])
theorem Mt.both {A B x s t u v : List Int} {n : Int} (h : Mt A B x s t u v n) : plus (tm u A) (tm v B) = x.map fun y => n * y := by
  have hn := h.cb.n1
  refine S_inj (plus_tr _ _) (tr_map_mul (by omega) h.cb.xt) ?_
  rw [S_plus, S_tm, S_tm, S_map_mul, h.cb.eq]
/-- bits of the answer, as the law's products want them -/
structure FtB (A B x s t u v : List Int) (n : Int) : Prop where
  b1 : ∃ g h, BdL g x ∧ BdL h s ∧ g + h ≤ 134217728
  b2 : ∃ g h, BdL g x ∧ BdL h t ∧ g + h ≤ 134217728
  b3 : ∃ g h, BdL g u ∧ BdL h A ∧ g + h ≤ 134217728
  b4 : ∃ g h, BdL g v ∧ BdL h B ∧ g + h ≤ 134217728
  b5 : ∃ g h, Bd g n ∧ BdL h x ∧ g + h ≤ 134217728
end Pa
namespace Pa
open Ser
theorem PD.trans {d f g : Ser} (h : PD d f) (h2 : PD f g) : PD d g := by
  obtain ⟨n, k, hk, e⟩ := h
  obtain ⟨m, j, hj, e2⟩ := h2
  refine ⟨n + m - 1, k * j, hk.mul hj, ?_⟩
  rw [e2, e]; grind
theorem PD.simp {xs : List Int} (h : Tr xs) : PD (S (simp' xs)) (S xs) := by
  rw [← S_simp h]
  exact (PD.refl _).C _
/-- the first of two rows that divide each other's ends -/
theorem Whole.lens {A g s : List Int} (h : Whole A g s) (hg : Tr g) (hgn : g ≠ []) (hA : A ≠ []) (ht : Tr A) : g.length ≤ A.length := by
  have hs : s ≠ [] := fun z => by
    have := h.2
    rw [z, S_nil] at this
    exact hA (S_zero_nil ht (by rw [this]; grind))
  have l := h.len hg hgn
  have : 0 < s.length := List.length_pos_iff.mpr hs
  have : 0 < g.length := List.length_pos_iff.mpr hgn
  omega
theorem wt_two2 : ∀ s, s < 11 → wt s ≤ 39062500 := by decide +kernel
/-- bits of meet's answer, from EE -/
theorem one_of_cont {g : List Int} (hl : g.length = 1) (hc : cont g = 1) (hp : 0 < g.getLast?.getD 0) : g = [1] := by
  obtain ⟨a, rfl⟩ := List.length_eq_one_iff.mp hl
  have e : cont [a] = a.natAbs := by
    show Nat.gcd a.natAbs 0 = a.natAbs
    exact Nat.gcd_zero_right _
  rw [e] at hc
  have hp' : 0 < a := hp
  have : a = 1 := by omega
  rw [this]
end Pa
namespace Pa
open Ser
/-- what is asked of the bits of what meet ends with -/
def MtQ (E : Nat → Nat → Nat → Nat → Prop) (xs ys : List Int) (A B : Nat) : Prop := ∀ (L a c d : Nat) (g : List Int), E L a c d → g.length = L → BdL a g → Tr g → g ≠ [] → cont g = 1 → 0 < g.getLast?.getD 0 → PD (S g) (S xs) → PD (S g) (S ys) →
  ∃ a', BdL a' g ∧ A + (xs.length + 2 - g.length) * (a' + 1) + a' + 1 ≤ 134217728 ∧ B + (ys.length + 2 - g.length) * (a' + 1) + a' + 1 ≤ 134217728
/-- bits of the answer's first three -/
def MtB (A B : Nat) (xs ys x s t : List Int) : Prop := ∃ a', BdL a' x ∧ A + (xs.length + 2 - x.length) * (a' + 1) + a' + 1 ≤ 134217728 ∧ B + (ys.length + 2 - x.length) * (a' + 1) + a' + 1 ≤ 134217728 ∧
  BdL (A + (xs.length + 1 - x.length) * (a' + 1)) s ∧ BdL (B + (ys.length + 1 - x.length) * (a' + 1)) t
/-- sizes that EE serves -/
def SzE (A B : List Int) (nb : Nat) : Prop := (A.length ≤ 13 ∧ B.length ≤ 13 ∧ nb ≤ 177) ∨ (A.length ≤ 7 ∧ B.length ≤ 7 ∧ nb ≤ 299)
theorem MtQ.ee {A B : List Int} {nb : Nat} (h : SzE A B nb) : MtQ EE A B nb nb := by
  rintro L a c d g ⟨h1, h13, aa, q1, q2, _, _⟩ hlen hb ht hne hc hp _ _
  have hl : A.length ≤ 13 ∧ B.length ≤ 13 ∧ nb ≤ 299 := by rcases h with h | h <;> omega
  by_cases hL : L = 1
  · have e := one_of_cont (by omega) hc hp
    subst e
    refine ⟨1, fun y hy => by rw [List.mem_singleton.mp hy]; exact (by decide : (1 : Int).natAbs < 2 ^ 1), ?_, ?_⟩
    · show nb + (A.length + 2 - 1) * (1 + 1) + 1 + 1 ≤ 134217728
      omega
    · show nb + (B.length + 2 - 1) * (1 + 1) + 1 + 1 ≤ 134217728
      omega
  · have w := wt_two2 (12 - L) (by omega)
    have ha : a + 1 ≤ 3400000 := by omega
    have m1 : (A.length + 2 - g.length) * (a + 1) ≤ 13 * 3400000 := Nat.mul_le_mul (by omega) ha
    have m2 : (B.length + 2 - g.length) * (a + 1) ≤ 13 * 3400000 := Nat.mul_le_mul (by omega) ha
    exact ⟨a, hb, by omega, by omega⟩
theorem FtB.of {A B x s t u v : List Int} {n : Int} {a c d nb : Nat} (he : EE x.length a c d) (hx : BdL a x) (hu : BdL c u) (hv : BdL c v) (hn : Bd d n) (hM : MtB nb nb A B x s t) (hA : BdL nb A) (hB : BdL nb B) (hnb : nb ≤ 299) : FtB A B x s t u v n := by
  obtain ⟨h1, h13, aa, q1, q2, q3, q4⟩ := he
  have w := wt_top (12 - x.length) (by omega)
  have ha : aa ≤ 21300000 := by omega
  obtain ⟨a', e1, e2, e3, e4, e5⟩ := hM
  have m1 : (A.length + 1 - x.length) * (a' + 1) ≤ (A.length + 2 - x.length) * (a' + 1) := Nat.mul_le_mul_right _ (by omega)
  have m2 : (B.length + 1 - x.length) * (a' + 1) ≤ (B.length + 2 - x.length) * (a' + 1) := Nat.mul_le_mul_right _ (by omega)
  exact ⟨⟨_, _, e1, e4, by omega⟩, ⟨_, _, e1, e5, by omega⟩, ⟨_, _, hu, hA, by omega⟩, ⟨_, _, hv, hB, by omega⟩, ⟨_, _, hn, hx, by omega⟩⟩
theorem Go.ee {A B : List Int} {nb : Nat} (h : SzE A B nb) (h16 : 16 ≤ nb) (hne : B ≠ []) : Go EE A.length B.length nb nb 1 1 nb nb := by
  have : 0 < B.length := List.length_pos_iff.mpr hne
  refine Go.start (B := nb + 1) ?_ (by omega) (by omega) (by omega) this
  rcases h with ⟨a, b, c⟩ | ⟨a, b, c⟩
  · exact .inl ⟨a, b, by omega⟩
  · exact .inr ⟨a, b, by omega⟩
theorem EE.ee {A B : List Int} {nb : Nat} (h : SzE A B nb) (hne : A ≠ []) : EE A.length nb 1 nb := by
  have : 0 < A.length := List.length_pos_iff.mpr hne
  have hl : A.length ≤ 13 ∧ B.length ≤ 13 ∧ nb ≤ 299 := by rcases h with h | h <;> omega
  have w := wt_low (12 - A.length) (by omega)
  exact ⟨this, hl.1, nb + 1, by omega, by omega, by omega, by omega⟩
end Pa

namespace Pa
open PySem PySem.Spec PyProof.Rows L2

/-! ### // by divisors of any size -/
def CDivP (i j : Int) : Prop := j ≠ 0
/-- what the division of great numbers asks of the context -/
structure Big (X : Cx) : Prop where
  seer : X.base.NoSeer
  room : X.A.depth + 100 < recursionLimit
  top : ∃ (e : Env) (l : List Env), X.stack = e :: l ∧ e.scope.isGenerator = false ∧ e.scope.isCoroutine = false ∧ e.builtins = builtinsNs ∧ e.globals = mainGlobals
theorem Big.of {X : Cx} {k : Nat} (hs : X.base.NoSeer) (hr : Room k X.A) (hk : 32 ≤ k) (ht : ∃ (e : Env) (l : List Env), X.stack = e :: l ∧ e.scope.isGenerator = false ∧ e.scope.isCoroutine = false ∧ e.builtins = builtinsNs ∧ e.globals = mainGlobals) : Big X :=
  ⟨hs, by have := hr.dp; omega, ht⟩
theorem op_fdivP {X : Cx} (hB : Big X) (ht : X.prog.given.tree = none) : OpR X (binaryOp .FloorDiv) (rI CDivP fun i j => .int (i.fdiv j)) := by
  intro pins s σ H x y v u Q I rx ry h
  obtain ⟨i, j, e1, e2, hc, q⟩ := h
  subst e1 e2
  obtain ⟨t, e3⟩ := rx
  obtain ⟨t', e4⟩ := ry
  subst e3 e4
  obtain ⟨e, l, hst, h1, h2, h3, h4⟩ := hB.top
  have hfr : X.A.frames = some (e :: l) := by rw [I.ok.frames, hst]
  have hpr : PylongRoom (model X.prog X.w) X.A s := PylongRoom.of I.nolimit hB.room (SeerAt.of (hB.seer.keeps I.bk) ht hfr h1 h2 h3 h4)
  exact floordiv_int (prog := X.prog) (w := X.w) hc ⟨.int (i.fdiv j), H, I.tok _, ⟨_, rfl⟩, q⟩ (.inr hpr)
end Pa
namespace Pa
open PySem PySem.Spec PyProof.Rows L2
/-! ### the law's call, the base heap known to have no seer -/
section
variable {P : Program} {w : World} {K : PySem.W.Frag} {mg mb : Str → Option Value} {lev : Nat} {fa a : Addr} {fd : FuncData} {x : Str} {sp : Sp} {s₁ : Shared} {vs : List Value} {ns : List Int}
abbrev LawEnds (h : Heap) (s₁ : Shared) : Result → Shared → Prop := fun r s' => r = .ok (.ret (.bool true)) ∧ OldK h s'.heap ∧ s'.os = s₁.os ∧ AllBare s'.gens
/-- the script's list, if it is hidden from the base -/
structure Hid (K : PySem.W.Frag) (P : Program) (w : World) (s₁ : Shared) (a : Addr) (ns : List Int) (H : Hp) : Prop where
  only : Only H
  seq : SqL K H a (ns.map V.int)
  ok : HOk P w H s₁.heap
  at_a : ∀ b, H b ≠ none → b = a
  kn : H a ≠ none → K.lookup a = none
theorem Hid.none_or (h : Hid K P w s₁ a ns H) (b : Addr) : H b = none ∨ (b = a ∧ K.lookup b = none) := by
  by_cases z : H b = none
  · exact .inl z
  · have e := h.at_a b z
    subst e
    exact .inr ⟨rfl, h.kn z⟩
theorem Hid.call {H : Hp} (hd : Hid K P w s₁ a ns H) (inK : K.In s₁.heap) (gl : s₁.heap.Ns mainGlobals mg) (bn : s₁.heap.Ns builtinsNs mb) (bb : ∀ x : Str, x ≠ "__name__" → mb x = bootBuiltins x) (nl : s₁.heap.NoLimit) (sr : s₁.heap.NoSeer) (ng : s₁.gens = #[])
    (lst : s₁.heap.get? a = some { cls := .type "list", data := .seq vs.toArray }) (rm : Room lev callerA)
    (F : ∀ base : Heap, K.In base → base.Ns mainGlobals mg → base.NoSeer → FnOk P w K mg base CX0 lev fa fd [x] sp) (bind : ∀ (s : Shared) (u : Value), BindsTo s fd ⟨[u], []⟩ [(x, u)])
    (hsp : ∀ H : Hp, Only H → SqL K H a (ns.map V.int) → sp [.ref a] H (fun v _ => v = .bl true) fun _ _ _ => False) :
    codeAny (model P w) callerA (.call (.ref fa) ⟨[.ref a], []⟩) (LawEnds s₁.heap s₁) s₁ := by
  -- an object other than the script's list stands in the base
  have stay : ∀ {b : Addr} {o : Obj}, s₁.heap.get? b = some o → (∀ l, o ≠ { cls := .type "list", data := .seq l }) → (hidT s₁.heap H).get? b = some o := fun {b o} g nol => by
    rcases hd.none_or b with z | ⟨z, _⟩
    · exact hidT_get g z
    · rw [z, lst] at g
      exact absurd (Option.some.inj g).symm (nol _)
  have dic : ∀ {b : Addr} {m : Str → Option Value}, s₁.heap.Ns b m → (hidT s₁.heap H).Ns b m := fun {b m} y => by
    obtain ⟨o, es, ep, g, dt, rest⟩ := y
    refine ⟨o, es, ep, stay g fun l z => ?_, dt, rest⟩
    rw [z] at dt
    exact Data.noConfusion dt
  have frag : K.In (hidT s₁.heap H) := fun b o lk => by
    rcases hd.none_or b with z | ⟨_, z⟩
    · exact hidT_get (inK b o lk) z
    · rw [z] at lk; exact nomatch lk
  have seer : (hidT s₁.heap H).NoSeer := by
    obtain ⟨⟨mc, c1, c2, c3⟩, ⟨mm, m1, m2⟩, ⟨mi, i1, i2⟩, ⟨mn, bm, ob, n1, n2, n3, n4, n5⟩⟩ := sr
    refine ⟨⟨mc, dic c1, c2, c3⟩, ⟨mm, dic m1, m2⟩, ⟨mi, dic i1, i2⟩, ⟨mn, bm, ob, dic n1, n2, stay n3 fun l z => ?_, n4, n5⟩⟩
    rw [z] at n4
    have n4' : Value.type "list" = Value.type "module" := n4
    revert n4'
    decide
  obtain ⟨mr, r1, r2⟩ := nl
  have env0 : Env0 P w K mg (hidT s₁.heap H) callerA [] s₁ H :=
    ⟨rfl, ⟨frag, dic gl, ⟨mb, dic bn, bb⟩, ⟨mr, dic r1, r2⟩⟩, fun _ _ g => of_hidT g, Nat.le_of_eq (hidT_size s₁.heap H), trivial, fun _ m => absurd m List.not_mem_nil, hd.ok, .of_eq ng⟩
  have run := (F _ frag (dic gl) seer).run callerA [] s₁ H ⟨[.ref a], []⟩ [.ref a] [.ref a] _ _ rm env0 (bind s₁ (.ref a)) (.cons rfl .nil) (hsp H hd.only hd.seq)
  refine codeAny_mono run fun r s' end' => ?_
  match r, end' with
  | .ok (.ret u), end' =>
    obtain ⟨v, H', so, br, un, ok', rel, val⟩ := end'
    have val' : v = .bl true := val
    subst val'
    have eu : u = Value.bool true := rel
    subst eu
    refine ⟨rfl, OldK.of_keep fun b o g => ?_, so, br⟩
    cases hb : H b with
    | none => exact un.keep b o g hb (fun m => absurd m List.not_mem_nil) (fun m => absurd m List.not_mem_nil)
    | some t =>
      rcases hd.only b with z | ⟨ob, ys, z⟩
      · rw [hb] at z; exact nomatch z
      · have f1 := (hd.ok b _ z).1
        have f2 := (ok' b _ (un.frzs b ob _ z)).1
        rw [g] at f1
        rw [Option.some.inj f1]; exact f2
  | .ok .next, end' => exact end'.elim
  | .ok .brk, end' => exact end'.elim
  | .ok .cont, end' => exact end'.elim
  | .error e, end' => exact end'.elim
theorem law_callS (inK : K.In s₁.heap) (gl : s₁.heap.Ns mainGlobals mg) (bn : s₁.heap.Ns builtinsNs mb) (bb : ∀ x : Str, x ≠ "__name__" → mb x = bootBuiltins x) (nl : s₁.heap.NoLimit) (sr : s₁.heap.NoSeer) (ng : s₁.gens = #[])
    (lst : s₁.heap.get? a = some { cls := .type "list", data := .seq vs.toArray }) (wholes : IntsAre vs ns) (sz : ns.length ≤ sizeLine) (rm : Room lev callerA)
    (F : ∀ base : Heap, K.In base → base.Ns mainGlobals mg → base.NoSeer → FnOk P w K mg base CX0 lev fa fd [x] sp) (bind : ∀ (s : Shared) (u : Value), BindsTo s fd ⟨[u], []⟩ [(x, u)])
    (hsp : ∀ H : Hp, Only H → SqL K H a (ns.map V.int) → sp [.ref a] H (fun v _ => v = .bl true) fun _ _ _ => False) :
    codeAny (model P w) callerA (.call (.ref fa) ⟨[.ref a], []⟩) (LawEnds s₁.heap s₁) s₁ := by
  have vals := vals_ints wholes
  have size : vs.length = ns.length := wholes.length
  by_cases own : K.lookup a = none
  · -- the script is the call's own: hidden
    let HH : Hp := fun b => if b = a then some (.frz { cls := .type "list", data := .seq vs.toArray } (.lst (ns.map V.int))) else none
    have here : HH a = some (.frz { cls := .type "list", data := .seq vs.toArray } (.lst (ns.map V.int))) := if_pos rfl
    have away : ∀ b, b ≠ a → HH b = none := fun b hb => if_neg hb
    have hid : Hid K P w s₁ a ns HH := by
      refine ⟨fun b => ?_, .inl (.inr ⟨_, here⟩), fun b u z => ?_, fun b z => Classical.byContradiction fun hb => z (away b hb), fun _ => own⟩
      · by_cases hb : b = a
        · rw [hb]; exact .inr ⟨_, _, here⟩
        · exact .inl (away b hb)
      · by_cases hb : b = a
        · rw [hb, here] at z
          have z' := Option.some.inj z
          subst z'
          rw [hb]
          exact ⟨lst, by rw [List.length_map]; exact sz, vs, _, vals, lst⟩
        · rw [away b hb] at z; exact nomatch z
    exact hid.call inK gl bn bb nl sr ng lst rm F bind hsp
  · -- the script is one of the written objects
    obtain ⟨o, lk⟩ : ∃ o, K.lookup a = some o := by
      cases e : K.lookup a with
      | none => exact absurd e own
      | some o => exact ⟨o, rfl⟩
    have same := inK a o lk
    rw [lst] at same
    cases same
    have hid : Hid K P w s₁ a ns fun _ => none := by
      refine ⟨fun b => .inl rfl, .inr ⟨_, vs.toArray, _, lk, rfl, rfl, rfl, by rw [List.size_toArray, size]; exact sz, by simpa using vals⟩, fun b u z => ?_, fun b z => absurd rfl z, fun z => absurd rfl z⟩
      have z' : (none : Option HO) = some u := z
      exact nomatch z'
    exact hid.call inK gl bn bb nl sr ng lst rm F bind hsp
end
theorem walk_ofS {l : PySem.W.OpenLaw} {n k : Nat} {q : Program} {loose : List Str} {XP : (Str → Option Value) → Heap → Prop} {YP : World → Heap → Prop} {d : DefRec} {K : Params → PySem.W.Frag} {sp : World → Sp} {x : Str}
    (most : l.most = some n) (small : n ≤ sizeLine) (plain : d.params.defaults = []) (rm : Room k callerA) (imp : importsNone q = true)
    (part : ∀ (w : World) (h : Heap), YP w h → (K w.params).In h)
    (F : ∀ (w : World) (mg : Str → Option Value) (fa : Addr) (h : Heap), (K w.params).In h → h.Ns mainGlobals mg → mg d.name = some (.ref fa) →
      ∃ fd : FuncData, (∀ (s : Shared) (u : Value), BindsTo s fd ⟨[u], []⟩ [(x, u)]) ∧ ∀ base : Heap, (K w.params).In base → base.Ns mainGlobals mg → base.NoSeer → FnOk l.prog w (K w.params) mg base CX0 k fa fd [x] (sp w))
    (hsp : ∀ (w : World) (H : Hp) (a : Addr) (ns : List Int), ns.length ≤ n → Only H → SqL (K w.params) H a (ns.map V.int) → sp w [.ref a] H (fun v _ => v = .bl true) fun _ _ _ => False) :
    PySem.W.WalkO q loose XP YP l.row.toRowW d [] (fun f vs => PySem.call f vs) := by
  refine Att.attach_call most plain fun w s₀ s₁ mg mb fa o pm cd doc a vs ns G Y g1 g2 g3 g4 g5 wholes len ng => ?_
  have inK := part w _ Y
  obtain ⟨fd, bind, FF⟩ := F w mg fa _ inK G.T.g g4
  exact law_callS inK G.T.g G.T.b G.T.builtins G.T.nolimit (G.T.seer imp) ng g5 wholes (Nat.le_trans len small) rm FF bind fun H only seq => hsp w H a ns len only seq
end Pa
namespace Pa
open PySem PySem.Spec PyProof.Rows L2
/-! ### the order of what is owned does not matter -/
theorem Kn.perm {H0 : Hp} {fs fs' : Fs} (p : fs.Perm fs') : ∀ {H : Hp}, Kn H0 fs H → Kn H0 fs' H := by
  induction p with
  | nil => exact fun k => k
  | cons x _ ih => exact fun ⟨e, H1, s, n, k⟩ => ⟨e, H1, s, n, ih k⟩
  | swap x y l => exact fun k => k.swap
  | trans _ _ ih1 ih2 => exact fun k => ih2 (ih1 k)
theorem NR.perm {Q : VK} {v : V} {H0 : Hp} {fs fs' : Fs} (p : fs.Perm fs') (h : NR Q v H0 fs') : NR Q v H0 fs := fun H k => h H (k.perm p)
theorem N.perm {e : St → Hp → Prop} {σ : St} {H0 : Hp} {fs fs' : Fs} (p : fs.Perm fs') (h : N e σ H0 fs') : N e σ H0 fs := fun H k => h H (k.perm p)
end Pa
namespace Pa
open PySem PySem.Spec PyProof.Rows L2
local macro_rules | `(tactic| walk_at "mem") => `(tactic| first | exact .head _ | (refine .tail _ ?_; walk_at "mem"))
local macro_rules | `(tactic| walk_at "rx") => `(tactic| first
  | with_reducible exact Rx.arg (by assumption) | exact Rx.own (by walk_at "mem") | exact Rx.arg (by assumption))
local macro_rules | `(tactic| walk_at "rl") => `(tactic| first
  | with_reducible exact Rl.x (Rx.arg (by assumption)) | exact Rl.x (Rx.own (by walk_at "mem")) | exact Rl.sq (by assumption) | exact Rl.x (Rx.arg (by assumption)))
local macro_rules | `(tactic| walk_at "rt") => `(tactic| first
  | with_reducible exact Rt.x (Rx.arg (by assumption)) | exact Rt.x (Rx.own (by walk_at "mem")) | exact Rt.x (Rx.arg (by assumption)))
local macro_rules | `(tactic| walk_at "sub") => `(tactic| (repeat (first | exact .slnil | exact .refl _ | apply List.Sublist.cons_cons | apply List.Sublist.cons)))
local macro_rules | `(tactic| walk_at "ok") => `(tactic| first
  | assumption | decide | omega | exact mulL (by omega) (by omega) | exact mulR (by omega) (by omega) | (refine ⟨?_, ?_⟩ <;> omega))
local macro_rules | `(tactic| walk_at "w1") => `(tactic| first
  | ((with_reducible refine' W.var ?h ?_); (case h => rfl))
  | with_reducible refine W.c ?_
  | with_reducible refine W.op ?_
  | with_reducible refine RW.i0 ?_
  | ((with_reducible refine' RW.i1 ?h ?_); (case h => walk_at "ok"))
  | with_reducible refine RW.eqI ?_
  | with_reducible refine RW.neI ?_
  | ((with_reducible refine' RW.eqZ ?h ?h2 ?_); (case h => walk_at "rl"); (case h2 => walk_at "rl"))
  | ((with_reducible refine' RW.neZ ?h ?h2 ?_); (case h => walk_at "rl"); (case h2 => walk_at "rl"))
  | with_reducible refine RW.eqL ?_
  | with_reducible refine RW.neL ?_
  | with_reducible refine RW.inL ?_
  | with_reducible refine RW.notInL ?_
  | with_reducible refine RW.eqS ?_
  | with_reducible refine RW.isNoR ?_
  | with_reducible refine W.m1 ?_
  | (with_reducible refine ⟨⟨_, rfl⟩, ?_⟩)
  | with_reducible refine RW.isNoN ?_
  | with_reducible refine RW.notNoR ?_
  | with_reducible refine RW.notNoN ?_
  | with_reducible refine RW.neS ?_
  | ((with_reducible refine' RW.ixZ ?h ?h2 ?_); (case h => walk_at "rl"); (case h2 => walk_at "ok"))
  | ((with_reducible refine' RW.ixL ?h ?h2 ?_); (case h => walk_at "rl"); (case h2 => rfl))
  | ((with_reducible refine' RW.ixT ?h ?h2 ?_); (case h => walk_at "rt"); (case h2 => rfl))
  | with_reducible refine W.un ?_
  | with_reducible refine RU.int ?_
  | with_reducible refine WA.nil ?_
  | with_reducible refine WA.cons ?_
  | with_reducible refine W.cb ?_
  | with_reducible refine W.call ?_
  | ((with_reducible refine' RC.lenZ ?h ?_); (case h => walk_at "rl"))
  | ((with_reducible refine' RC.len ?h ?_); (case h => walk_at "rl"))
  | ((with_reducible refine' RC.lenT ?h ?_); (case h => walk_at "rt"))
  | ((with_reducible refine' RC.lenX ?h ?_); (case h => walk_at "ok"))
  | ((with_reducible refine' RC.lenS ?h ?_); (case h => walk_at "ok"))
  | with_reducible refine RC.abs ?_
  | with_reducible refine RC.max2 ?_
  | with_reducible refine RC.min2 ?_
  | ((with_reducible refine' RC.listL ?h ?_); (case h => walk_at "rl"))
  | (with_reducible refine W.lst0 ?_)
  | (with_reducible refine W.lst1 ?_)
  | (with_reducible refine W.lst ?_)
  | (with_reducible refine W.tup ?_)
  | (with_reducible refine W.sl ?_)
  | (with_reducible refine WO.no ?_)
  | (with_reducible refine WO.part ?_)
  | ((with_reducible refine' RS.take ?h ?h2 ?_); (case h => walk_at "rl"); (case h2 => walk_at "ok"))
  | ((with_reducible refine' RS.drop ?h ?h2 ?_); (case h => walk_at "rl"); (case h2 => walk_at "ok"))
  | with_reducible refine RC.isiII ?_
  | with_reducible refine RC.isiIB ?_
  | ((with_reducible refine' RC.isiLL ?h ?_); (case h => walk_at "rx"))
  | ((with_reducible refine' RC.isiTT ?h ?_); (case h => walk_at "rx"))
  | with_reducible refine WT.test ?_
  | with_reducible refine WT.b ?_
  | with_reducible refine WT.not ?_
  | with_reducible refine WT.and ?_
  | with_reducible refine WT.or ?_
  | with_reducible refine W.andV ?_
  | with_reducible refine W.orV ?_
  | with_reducible refine W.notV ?_
  | with_reducible refine W.chain ?_
  | with_reducible refine S.seq ?_
  | ((with_reducible refine Un.nx ?_); (with_reducible refine UU.zero ?_))
  | ((with_reducible refine Un.nx ?_); (with_reducible refine UU.succ ?_))
  | with_reducible refine UU.succ ?_
  | with_reducible refine UU.zero ?_
  | with_reducible refine S.asg ?_
  | with_reducible refine S.dropS ?_
  | with_reducible refine S.ret ?_
  | with_reducible refine S.if_ ?_
  | with_reducible refine S.next ?_
  | (with_reducible refine ⟨_, rfl, ?_⟩)
  | refine And.intro (fun _ => ?_) (fun h => Bool.noConfusion h)
  | refine And.intro (fun h => Bool.noConfusion h) (fun _ => ?_))
local macro_rules | `(tactic| walk_at "v1") => `(tactic| first
  | ((with_reducible refine' W.var ?h ?_); (case h => rfl))
  | with_reducible refine W.c ?_
  | with_reducible refine W.op ?_
  | with_reducible refine RW.i0 ?_
  | ((with_reducible refine' RW.i1 ?h ?_); (case h => walk_at "ok"))
  | with_reducible refine RW.eqI ?_
  | with_reducible refine RW.neI ?_
  | ((with_reducible refine' RW.eqZ ?h ?h2 ?_); (case h => walk_at "rl"); (case h2 => walk_at "rl"))
  | ((with_reducible refine' RW.neZ ?h ?h2 ?_); (case h => walk_at "rl"); (case h2 => walk_at "rl"))
  | with_reducible refine RW.eqL ?_
  | with_reducible refine RW.neL ?_
  | with_reducible refine RW.inL ?_
  | with_reducible refine RW.notInL ?_
  | with_reducible refine RW.eqS ?_
  | with_reducible refine RW.isNoR ?_
  | with_reducible refine W.m1 ?_
  | (with_reducible refine ⟨⟨_, rfl⟩, ?_⟩)
  | with_reducible refine RW.isNoN ?_
  | with_reducible refine RW.notNoR ?_
  | with_reducible refine RW.notNoN ?_
  | with_reducible refine RW.neS ?_
  | ((with_reducible refine' RW.ixZ ?h ?h2 ?_); (case h => walk_at "rl"); (case h2 => walk_at "ok"))
  | ((with_reducible refine' RW.ixL ?h ?h2 ?_); (case h => walk_at "rl"); (case h2 => rfl))
  | ((with_reducible refine' RW.ixT ?h ?h2 ?_); (case h => walk_at "rt"); (case h2 => rfl))
  | with_reducible refine W.un ?_
  | with_reducible refine RU.int ?_
  | with_reducible refine WA.nil ?_
  | with_reducible refine WA.cons ?_
  | with_reducible refine W.cb ?_
  | with_reducible refine W.call ?_
  | ((with_reducible refine' RC.lenZ ?h ?_); (case h => walk_at "rl"))
  | ((with_reducible refine' RC.len ?h ?_); (case h => walk_at "rl"))
  | ((with_reducible refine' RC.lenT ?h ?_); (case h => walk_at "rt"))
  | ((with_reducible refine' RC.lenX ?h ?_); (case h => walk_at "ok"))
  | ((with_reducible refine' RC.lenS ?h ?_); (case h => walk_at "ok"))
  | with_reducible refine RC.abs ?_
  | with_reducible refine RC.max2 ?_
  | with_reducible refine RC.min2 ?_
  | ((with_reducible refine' RC.listL ?h ?_); (case h => walk_at "rl"))
  | (with_reducible refine W.lst0 ?_)
  | (with_reducible refine W.lst1 ?_)
  | (with_reducible refine W.lst ?_)
  | (with_reducible refine W.tup ?_)
  | (with_reducible refine W.sl ?_)
  | (with_reducible refine WO.no ?_)
  | (with_reducible refine WO.part ?_)
  | ((with_reducible refine' RS.take ?h ?h2 ?_); (case h => walk_at "rl"); (case h2 => walk_at "ok"))
  | ((with_reducible refine' RS.drop ?h ?h2 ?_); (case h => walk_at "rl"); (case h2 => walk_at "ok"))
  | with_reducible refine RC.isiII ?_
  | with_reducible refine RC.isiIB ?_
  | ((with_reducible refine' RC.isiLL ?h ?_); (case h => walk_at "rx"))
  | ((with_reducible refine' RC.isiTT ?h ?_); (case h => walk_at "rx"))
  | with_reducible refine WT.test ?_
  | with_reducible refine WT.b ?_
  | with_reducible refine WT.not ?_
  | with_reducible refine WT.and ?_
  | with_reducible refine WT.or ?_
  | with_reducible refine W.andV ?_
  | with_reducible refine W.orV ?_
  | with_reducible refine W.notV ?_
  | with_reducible refine W.chain ?_
  | with_reducible refine S.seq ?_
  | ((with_reducible refine Un.nx ?_); (with_reducible refine UU.zero ?_))
  | ((with_reducible refine Un.nx ?_); (with_reducible refine UU.succ ?_))
  | with_reducible refine UU.succ ?_
  | with_reducible refine UU.zero ?_
  | with_reducible refine S.asg ?_
  | with_reducible refine S.dropS ?_
  | with_reducible refine S.ret ?_
  | with_reducible refine S.next ?_
  | (with_reducible refine ⟨_, rfl, ?_⟩)
  | refine And.intro (fun _ => ?_) (fun h => Bool.noConfusion h)
  | refine And.intro (fun h => Bool.noConfusion h) (fun _ => ?_))
local macro_rules | `(tactic| walk_at "w") => `(tactic| (repeat walk_at "w1"))
local macro_rules | `(tactic| walk_at "w0") => `(tactic| (repeat walk_at "v1"))
local macro_rules | `(tactic| walk_at "if") => `(tactic| (refine And.intro (fun hb => ?_) (fun hb => ?_) <;> (try simp only [decide_eq_true_eq, decide_eq_false_iff_not, Bool.not_eq_true', Bool.not_eq_false', Bool.false_eq_true, Bool.true_eq_false, Bool.not_true, Bool.not_false, eq_self, not_true_eq_false, not_false_eq_true, ne_eq] at hb)))
local macro_rules | `(tactic| walk_at "fin") => `(tactic| first
  | exact NR.sub (by assumption) (by walk_at "sub")
  | exact NR.sub (by first | assumption | (apply_assumption)) (by walk_at "sub"))
local macro_rules | `(tactic| walk_at "d") => `(tactic| (try dsimp only [List.set, wipe, List.map]))
local macro_rules | `(tactic| walk_at "lp") => `(tactic| refine Lp.nx ?_)
local macro_rules | `(tactic| walk_at "app") => `(tactic| ((with_reducible refine S.app ?_); (walk_at "w0"); (first | refine ⟨⟨_, by walk_at "rl"⟩, ?_⟩ | refine ⟨_, rfl, ⟨_, by walk_at "rl"⟩, ?_⟩); (walk_at "w0"); (first | refine ⟨_, 0, rfl, ?_, ?_⟩ | refine ⟨_, 1, rfl, ?_, ?_⟩ | refine ⟨_, 2, rfl, ?_, ?_⟩ | refine ⟨_, 3, rfl, ?_, ?_⟩ | refine ⟨_, 4, rfl, ?_, ?_⟩ | refine ⟨_, 5, rfl, ?_, ?_⟩ | refine ⟨_, 6, rfl, ?_, ?_⟩ | refine ⟨_, 7, rfl, ?_, ?_⟩ | refine ⟨_, 8, rfl, ?_, ?_⟩ | refine ⟨_, 9, rfl, ?_, ?_⟩ | refine ⟨_, 10, rfl, ?_, ?_⟩ | refine ⟨_, 11, rfl, ?_, ?_⟩ | refine ⟨_, 12, rfl, ?_, ?_⟩ | refine ⟨_, 13, rfl, ?_, ?_⟩ | refine ⟨_, 14, rfl, ?_, ?_⟩ | refine ⟨_, 15, rfl, ?_, ?_⟩ | refine ⟨_, 16, rfl, ?_, ?_⟩ | refine ⟨_, 17, rfl, ?_, ?_⟩ | refine ⟨_, 18, rfl, ?_, ?_⟩ | refine ⟨_, 19, rfl, ?_, ?_⟩ | refine ⟨_, 20, rfl, ?_, ?_⟩ | refine ⟨_, 21, rfl, ?_, ?_⟩ | refine ⟨_, 22, rfl, ?_, ?_⟩ | refine ⟨_, 23, rfl, ?_, ?_⟩)))
local macro_rules | `(tactic| walk_at "set1") => `(tactic| first | refine ⟨_, _, _, 0, rfl, rfl, rfl, ?_, ?_⟩ | refine ⟨_, _, _, 1, rfl, rfl, rfl, ?_, ?_⟩ | refine ⟨_, _, _, 2, rfl, rfl, rfl, ?_, ?_⟩ | refine ⟨_, _, _, 3, rfl, rfl, rfl, ?_, ?_⟩ | refine ⟨_, _, _, 4, rfl, rfl, rfl, ?_, ?_⟩ | refine ⟨_, _, _, 5, rfl, rfl, rfl, ?_, ?_⟩ | refine ⟨_, _, _, 6, rfl, rfl, rfl, ?_, ?_⟩ | refine ⟨_, _, _, 7, rfl, rfl, rfl, ?_, ?_⟩ | refine ⟨_, _, _, 8, rfl, rfl, rfl, ?_, ?_⟩ | refine ⟨_, _, _, 9, rfl, rfl, rfl, ?_, ?_⟩ | refine ⟨_, _, _, 10, rfl, rfl, rfl, ?_, ?_⟩ | refine ⟨_, _, _, 11, rfl, rfl, rfl, ?_, ?_⟩ | refine ⟨_, _, _, 12, rfl, rfl, rfl, ?_, ?_⟩ | refine ⟨_, _, _, 13, rfl, rfl, rfl, ?_, ?_⟩ | refine ⟨_, _, _, 14, rfl, rfl, rfl, ?_, ?_⟩ | refine ⟨_, _, _, 15, rfl, rfl, rfl, ?_, ?_⟩ | refine ⟨_, _, _, 16, rfl, rfl, rfl, ?_, ?_⟩ | refine ⟨_, _, _, 17, rfl, rfl, rfl, ?_, ?_⟩ | refine ⟨_, _, _, 18, rfl, rfl, rfl, ?_, ?_⟩ | refine ⟨_, _, _, 19, rfl, rfl, rfl, ?_, ?_⟩ | refine ⟨_, _, _, 20, rfl, rfl, rfl, ?_, ?_⟩ | refine ⟨_, _, _, 21, rfl, rfl, rfl, ?_, ?_⟩ | refine ⟨_, _, _, 22, rfl, rfl, rfl, ?_, ?_⟩ | refine ⟨_, _, _, 23, rfl, rfl, rfl, ?_, ?_⟩)
local macro_rules | `(tactic| walk_at "un") => `(tactic| refine Un.nx ?_)
def topS (i : Nat) : Stmt := PySem.Challenge.pw_polyarith_k09_meet.main.body.getD i (.Pass ⟨0, 0, 0, 0⟩)
abbrev s_greatest : Stmt := topS 1
theorem sc_greatest : FnScope ["one", "other", "rest"] ["one", "other"] (defScope s_greatest) := ⟨rfl, rfl, rfl, by decide +kernel, rfl, by decide +kernel, by decide +kernel⟩
abbrev s_content : Stmt := topS 2
theorem sc_content : FnScope ["row", "found", "number"] ["row"] (defScope s_content) := ⟨rfl, rfl, rfl, by decide +kernel, rfl, by decide +kernel, by decide +kernel⟩
abbrev s_signed_content : Stmt := topS 3
theorem sc_signed_content : FnScope ["row"] ["row"] (defScope s_signed_content) := ⟨rfl, rfl, rfl, by decide +kernel, rfl, by decide +kernel, by decide +kernel⟩
abbrev s_simple : Stmt := topS 4
theorem sc_simple : FnScope ["row", "by", "number"] ["row"] (defScope s_simple) := ⟨rfl, rfl, rfl, by decide +kernel, rfl, by decide +kernel, by decide +kernel⟩
abbrev s_trimmed : Stmt := topS 11
theorem sc_trimmed : FnScope ["row", "size"] ["row"] (defScope s_trimmed) := ⟨rfl, rfl, rfl, by decide +kernel, rfl, by decide +kernel, by decide +kernel⟩
abbrev s_number_at : Stmt := topS 12
theorem sc_number_at : FnScope ["row", "place"] ["row", "place"] (defScope s_number_at) := ⟨rfl, rfl, rfl, by decide +kernel, rfl, by decide +kernel, by decide +kernel⟩
abbrev s_minus : Stmt := topS 13
theorem sc_minus : FnScope ["ones", "others", "size", "k"] ["ones", "others"] (defScope s_minus) := ⟨rfl, rfl, rfl, by decide +kernel, rfl, by decide +kernel, by decide +kernel⟩
abbrev s_scaled : Stmt := topS 14
theorem sc_scaled : FnScope ["row", "many", "number"] ["row", "many"] (defScope s_scaled) := ⟨rfl, rfl, rfl, by decide +kernel, rfl, by decide +kernel, by decide +kernel⟩
abbrev s_times : Stmt := topS 15
theorem sc_times : FnScope ["ones", "others", "found", "j", "k"] ["ones", "others"] (defScope s_times) := ⟨rfl, rfl, rfl, by decide +kernel, rfl, by decide +kernel, by decide +kernel⟩
abbrev s_divided : Stmt := topS 17
theorem sc_divided : FnScope ["row", "by", "many", "found", "rest", "step", "place", "top", "more", "k", "number"] ["row", "by"] (defScope s_divided) := ⟨rfl, rfl, rfl, by decide +kernel, rfl, by decide +kernel, by decide +kernel⟩
abbrev s_quotient : Stmt := topS 18
theorem sc_quotient : FnScope ["row", "by", "told"] ["row", "by"] (defScope s_quotient) := ⟨rfl, rfl, rfl, by decide +kernel, rfl, by decide +kernel, by decide +kernel⟩
abbrev s_shared : Stmt := topS 20
theorem sc_shared : FnScope ["row", "ones", "others", "many", "by", "number"] ["row", "ones", "others", "many"] (defScope s_shared) := ⟨rfl, rfl, rfl, by decide +kernel, rfl, by decide +kernel, by decide +kernel⟩
abbrev s_begun : Stmt := topS 21
theorem sc_begun : FnScope ["row", "first", "by", "sign"] ["row", "first"] (defScope s_begun) := ⟨rfl, rfl, rfl, by decide +kernel, rfl, by decide +kernel, by decide +kernel⟩
abbrev s_behind : Stmt := topS 22
theorem sc_behind : FnScope ["here", "there", "told", "rest", "by", "sign", "up", "down", "ones", "others"] ["here", "there"] (defScope s_behind) := ⟨rfl, rfl, rfl, by decide +kernel, rfl, by decide +kernel, by decide +kernel⟩
abbrev s_meet : Stmt := topS 23
theorem sc_meet : FnScope ["ones", "others", "here", "there", "rest", "found"] ["ones", "others"] (defScope s_meet) := ⟨rfl, rfl, rfl, by decide +kernel, rfl, by decide +kernel, by decide +kernel⟩
abbrev s__law_whole : Stmt := topS 25
theorem sc__law_whole : FnScope ["_law_found"] ["_law_found"] (defScope s__law_whole) := ⟨rfl, rfl, rfl, by decide +kernel, rfl, by decide +kernel, by decide +kernel⟩
abbrev s__law_cell_at : Stmt := topS 26
theorem sc__law_cell_at : FnScope ["_law_script", "_law_k"] ["_law_script", "_law_k"] (defScope s__law_cell_at) := ⟨rfl, rfl, rfl, by decide +kernel, rfl, by decide +kernel, by decide +kernel⟩
abbrev s__law_trim : Stmt := topS 27
theorem sc__law_trim : FnScope ["_law_row_here", "_law_size"] ["_law_row_here"] (defScope s__law_trim) := ⟨rfl, rfl, rfl, by decide +kernel, rfl, by decide +kernel, by decide +kernel⟩
abbrev s__law_same : Stmt := topS 28
theorem sc__law_same : FnScope ["_law_found", "_law_due", "_law_k"] ["_law_found", "_law_due"] (defScope s__law_same) := ⟨rfl, rfl, rfl, by decide +kernel, rfl, by decide +kernel, by decide +kernel⟩
abbrev s__law_number : Stmt := topS 29
theorem sc__law_number : FnScope ["_law_cell"] ["_law_cell"] (defScope s__law_number) := ⟨rfl, rfl, rfl, by decide +kernel, rfl, by decide +kernel, by decide +kernel⟩
abbrev s__law_small : Stmt := topS 30
theorem sc__law_small : FnScope ["_law_cell"] ["_law_cell"] (defScope s__law_small) := ⟨rfl, rfl, rfl, by decide +kernel, rfl, by decide +kernel, by decide +kernel⟩
abbrev s__law_drawn : Stmt := topS 31
theorem sc__law_drawn : FnScope ["_law_script", "_law_place", "_law_size", "_law_many", "_law_row_here", "_law_k"] ["_law_script", "_law_place", "_law_size", "_law_many"] (defScope s__law_drawn) := ⟨rfl, rfl, rfl, by decide +kernel, rfl, by decide +kernel, by decide +kernel⟩
abbrev s__law_plus : Stmt := topS 32
theorem sc__law_plus : FnScope ["_law_ones", "_law_others", "_law_size", "_law_k"] ["_law_ones", "_law_others"] (defScope s__law_plus) := ⟨rfl, rfl, rfl, by decide +kernel, rfl, by decide +kernel, by decide +kernel⟩
abbrev s__law_times : Stmt := topS 33
theorem sc__law_times : FnScope ["_law_ones", "_law_others", "_law_found", "_law_j", "_law_k"] ["_law_ones", "_law_others"] (defScope s__law_times) := ⟨rfl, rfl, rfl, by decide +kernel, rfl, by decide +kernel, by decide +kernel⟩
abbrev s__law_row : Stmt := topS 34
theorem sc__law_row : FnScope ["_law_found", "_law_number_here"] ["_law_found"] (defScope s__law_row) := ⟨rfl, rfl, rfl, by decide +kernel, rfl, by decide +kernel, by decide +kernel⟩
abbrev s__law_greatest : Stmt := topS 35
theorem sc__law_greatest : FnScope ["_law_one", "_law_other", "_law_rest"] ["_law_one", "_law_other"] (defScope s__law_greatest) := ⟨rfl, rfl, rfl, by decide +kernel, rfl, by decide +kernel, by decide +kernel⟩
abbrev s__law_content : Stmt := topS 36
theorem sc__law_content : FnScope ["_law_row_here", "_law_found", "_law_number_here"] ["_law_row_here"] (defScope s__law_content) := ⟨rfl, rfl, rfl, by decide +kernel, rfl, by decide +kernel, by decide +kernel⟩
abbrev s__law_simple : Stmt := topS 37
theorem sc__law_simple : FnScope ["_law_row_here", "_law_by", "_law_number_here"] ["_law_row_here"] (defScope s__law_simple) := ⟨rfl, rfl, rfl, by decide +kernel, rfl, by decide +kernel, by decide +kernel⟩
abbrev s__law_divides : Stmt := topS 38
theorem sc__law_divides : FnScope ["_law_by", "_law_row_here", "_law_rest", "_law_step", "_law_place", "_law_top", "_law_k"] ["_law_by", "_law_row_here"] (defScope s__law_divides) := ⟨rfl, rfl, rfl, by decide +kernel, rfl, by decide +kernel, by decide +kernel⟩
abbrev s__law_refused : Stmt := topS 39
theorem sc__law_refused : FnScope ["_law_base", "e"] ["_law_base"] (defScope s__law_refused) := ⟨rfl, rfl, rfl, by decide +kernel, rfl, by decide +kernel, by decide +kernel⟩
abbrev s__law_fits : Stmt := topS 40
theorem sc__law_fits : FnScope ["_law_found", "_law_ones", "_law_others", "_law_k", "_law_both", "_law_number_here"] ["_law_found", "_law_ones", "_law_others"] (defScope s__law_fits) := ⟨rfl, rfl, rfl, by decide +kernel, rfl, by decide +kernel, by decide +kernel⟩
abbrev s__law_built : Stmt := topS 41
theorem sc__law_built : FnScope ["_law_script", "_law_first", "_law_second", "_law_common", "_law_ones", "_law_others", "_law_k"] ["_law_script"] (defScope s__law_built) := ⟨rfl, rfl, rfl, by decide +kernel, rfl, by decide +kernel, by decide +kernel⟩
abbrev s_law : Stmt := topS 42
theorem sc_law : FnScope ["_law_script", "_law_common", "_law_ones", "_law_others", "_law_handed", "_law_found", "_law_due", "_law_kept", "_law_k", "_law_again", "_law_one"] ["_law_script"] (defScope s_law) := ⟨rfl, rfl, rfl, by decide +kernel, rfl, by decide +kernel, by decide +kernel⟩
structure Txt0 (K : PySem.W.Frag) (mg : Str → Option Value) where
  a_greatest : Addr
  d_greatest : FuncData
  F_greatest : Fun K "greatest" "greatest" s_greatest a_greatest d_greatest
  m_greatest : mg "greatest" = some (.ref a_greatest)
  b_greatest : Binds K d_greatest ["one", "other"] []
  a_content : Addr
  d_content : FuncData
  F_content : Fun K "content" "content" s_content a_content d_content
  m_content : mg "content" = some (.ref a_content)
  b_content : Binds K d_content ["row"] []
  a_signed_content : Addr
  d_signed_content : FuncData
  F_signed_content : Fun K "signed_content" "signed_content" s_signed_content a_signed_content d_signed_content
  m_signed_content : mg "signed_content" = some (.ref a_signed_content)
  b_signed_content : Binds K d_signed_content ["row"] []
  a_simple : Addr
  d_simple : FuncData
  F_simple : Fun K "simple" "simple" s_simple a_simple d_simple
  m_simple : mg "simple" = some (.ref a_simple)
  b_simple : Binds K d_simple ["row"] []
  a_trimmed : Addr
  d_trimmed : FuncData
  F_trimmed : Fun K "trimmed" "trimmed" s_trimmed a_trimmed d_trimmed
  m_trimmed : mg "trimmed" = some (.ref a_trimmed)
  b_trimmed : Binds K d_trimmed ["row"] []
  a_number_at : Addr
  d_number_at : FuncData
  F_number_at : Fun K "number_at" "number_at" s_number_at a_number_at d_number_at
  m_number_at : mg "number_at" = some (.ref a_number_at)
  b_number_at : Binds K d_number_at ["row", "place"] []
  a_minus : Addr
  d_minus : FuncData
  F_minus : Fun K "minus" "minus" s_minus a_minus d_minus
  m_minus : mg "minus" = some (.ref a_minus)
  b_minus : Binds K d_minus ["ones", "others"] []
  a_scaled : Addr
  d_scaled : FuncData
  F_scaled : Fun K "scaled" "scaled" s_scaled a_scaled d_scaled
  m_scaled : mg "scaled" = some (.ref a_scaled)
  b_scaled : Binds K d_scaled ["row", "many"] []
  a_times : Addr
  d_times : FuncData
  F_times : Fun K "times" "times" s_times a_times d_times
  m_times : mg "times" = some (.ref a_times)
  b_times : Binds K d_times ["ones", "others"] []
  a_divided : Addr
  d_divided : FuncData
  F_divided : Fun K "divided" "divided" s_divided a_divided d_divided
  m_divided : mg "divided" = some (.ref a_divided)
  b_divided : Binds K d_divided ["row", "by"] []
  a_quotient : Addr
  d_quotient : FuncData
  F_quotient : Fun K "quotient" "quotient" s_quotient a_quotient d_quotient
  m_quotient : mg "quotient" = some (.ref a_quotient)
  b_quotient : Binds K d_quotient ["row", "by"] []
  a_shared : Addr
  d_shared : FuncData
  F_shared : Fun K "shared" "shared" s_shared a_shared d_shared
  m_shared : mg "shared" = some (.ref a_shared)
  b_shared : Binds K d_shared ["row", "ones", "others", "many"] []
  a_begun : Addr
  d_begun : FuncData
  F_begun : Fun K "begun" "begun" s_begun a_begun d_begun
  m_begun : mg "begun" = some (.ref a_begun)
  b_begun : Binds K d_begun ["row", "first"] []
  a_behind : Addr
  d_behind : FuncData
  F_behind : Fun K "behind" "behind" s_behind a_behind d_behind
  m_behind : mg "behind" = some (.ref a_behind)
  b_behind : Binds K d_behind ["here", "there"] []
  a_meet : Addr
  d_meet : FuncData
  F_meet : Fun K "meet" "meet" s_meet a_meet d_meet
  m_meet : mg "meet" = some (.ref a_meet)
  b_meet : Binds K d_meet ["ones", "others"] []
  a__law_whole : Addr
  d__law_whole : FuncData
  F__law_whole : Fun K "_law_whole" "_law_whole" s__law_whole a__law_whole d__law_whole
  m__law_whole : mg "_law_whole" = some (.ref a__law_whole)
  b__law_whole : Binds K d__law_whole ["_law_found"] []
  a__law_cell_at : Addr
  d__law_cell_at : FuncData
  F__law_cell_at : Fun K "_law_cell_at" "_law_cell_at" s__law_cell_at a__law_cell_at d__law_cell_at
  m__law_cell_at : mg "_law_cell_at" = some (.ref a__law_cell_at)
  b__law_cell_at : Binds K d__law_cell_at ["_law_script", "_law_k"] []
  a__law_trim : Addr
  d__law_trim : FuncData
  F__law_trim : Fun K "_law_trim" "_law_trim" s__law_trim a__law_trim d__law_trim
  m__law_trim : mg "_law_trim" = some (.ref a__law_trim)
  b__law_trim : Binds K d__law_trim ["_law_row_here"] []
  a__law_same : Addr
  d__law_same : FuncData
  F__law_same : Fun K "_law_same" "_law_same" s__law_same a__law_same d__law_same
  m__law_same : mg "_law_same" = some (.ref a__law_same)
  b__law_same : Binds K d__law_same ["_law_found", "_law_due"] []
  a__law_number : Addr
  d__law_number : FuncData
  F__law_number : Fun K "_law_number" "_law_number" s__law_number a__law_number d__law_number
  m__law_number : mg "_law_number" = some (.ref a__law_number)
  b__law_number : Binds K d__law_number ["_law_cell"] []
  a__law_small : Addr
  d__law_small : FuncData
  F__law_small : Fun K "_law_small" "_law_small" s__law_small a__law_small d__law_small
  m__law_small : mg "_law_small" = some (.ref a__law_small)
  b__law_small : Binds K d__law_small ["_law_cell"] []
  a__law_drawn : Addr
  d__law_drawn : FuncData
  F__law_drawn : Fun K "_law_drawn" "_law_drawn" s__law_drawn a__law_drawn d__law_drawn
  m__law_drawn : mg "_law_drawn" = some (.ref a__law_drawn)
  b__law_drawn : Binds K d__law_drawn ["_law_script", "_law_place", "_law_size", "_law_many"] []
  a__law_plus : Addr
  d__law_plus : FuncData
  F__law_plus : Fun K "_law_plus" "_law_plus" s__law_plus a__law_plus d__law_plus
  m__law_plus : mg "_law_plus" = some (.ref a__law_plus)
  b__law_plus : Binds K d__law_plus ["_law_ones", "_law_others"] []
  a__law_times : Addr
  d__law_times : FuncData
  F__law_times : Fun K "_law_times" "_law_times" s__law_times a__law_times d__law_times
  m__law_times : mg "_law_times" = some (.ref a__law_times)
  b__law_times : Binds K d__law_times ["_law_ones", "_law_others"] []
  a__law_row : Addr
  d__law_row : FuncData
  F__law_row : Fun K "_law_row" "_law_row" s__law_row a__law_row d__law_row
  m__law_row : mg "_law_row" = some (.ref a__law_row)
  b__law_row : Binds K d__law_row ["_law_found"] []
  a__law_greatest : Addr
  d__law_greatest : FuncData
  F__law_greatest : Fun K "_law_greatest" "_law_greatest" s__law_greatest a__law_greatest d__law_greatest
  m__law_greatest : mg "_law_greatest" = some (.ref a__law_greatest)
  b__law_greatest : Binds K d__law_greatest ["_law_one", "_law_other"] []
  a__law_content : Addr
  d__law_content : FuncData
  F__law_content : Fun K "_law_content" "_law_content" s__law_content a__law_content d__law_content
  m__law_content : mg "_law_content" = some (.ref a__law_content)
  b__law_content : Binds K d__law_content ["_law_row_here"] []
  a__law_simple : Addr
  d__law_simple : FuncData
  F__law_simple : Fun K "_law_simple" "_law_simple" s__law_simple a__law_simple d__law_simple
  m__law_simple : mg "_law_simple" = some (.ref a__law_simple)
  b__law_simple : Binds K d__law_simple ["_law_row_here"] []
  a__law_divides : Addr
  d__law_divides : FuncData
  F__law_divides : Fun K "_law_divides" "_law_divides" s__law_divides a__law_divides d__law_divides
  m__law_divides : mg "_law_divides" = some (.ref a__law_divides)
  b__law_divides : Binds K d__law_divides ["_law_by", "_law_row_here"] []
  a__law_refused : Addr
  d__law_refused : FuncData
  F__law_refused : Fun K "_law_refused" "_law_refused" s__law_refused a__law_refused d__law_refused
  m__law_refused : mg "_law_refused" = some (.ref a__law_refused)
  b__law_refused : Binds K d__law_refused ["_law_base"] []
  a__law_fits : Addr
  d__law_fits : FuncData
  F__law_fits : Fun K "_law_fits" "_law_fits" s__law_fits a__law_fits d__law_fits
  m__law_fits : mg "_law_fits" = some (.ref a__law_fits)
  b__law_fits : Binds K d__law_fits ["_law_found", "_law_ones", "_law_others"] []
  a__law_built : Addr
  d__law_built : FuncData
  F__law_built : Fun K "_law_built" "_law_built" s__law_built a__law_built d__law_built
  m__law_built : mg "_law_built" = some (.ref a__law_built)
  b__law_built : Binds K d__law_built ["_law_script"] []
  a_law : Addr
  d_law : FuncData
  F_law : Fun K "law" "law" s_law a_law d_law
  m_law : mg "law" = some (.ref a_law)
  b_law : Binds K d_law ["_law_script"] []
  A_PolyError : Addr
  e_PolyError : Err K mg "PolyError" A_PolyError
  A_ByNought : Addr
  e_ByNought : Err K mg "ByNought" A_ByNought
  A_NotWhole : Addr
  e_NotWhole : Err K mg "NotWhole" A_NotWhole
  A_NoMeet : Addr
  e_NoMeet : Err K mg "NoMeet" A_NoMeet
  u_NoMeet_PolyError : PySem.W.exmOne K (.ref A_NoMeet) (.ref A_PolyError) = some true
  u_NoMeet_NoMeet : PySem.W.exmOne K (.ref A_NoMeet) (.ref A_NoMeet) = some true
  z_ValueError : mg "ValueError" = none
  z_abs : mg "abs" = none
  z_bool : mg "bool" = none
  z_int : mg "int" = none
  z_isinstance : mg "isinstance" = none
  z_len : mg "len" = none
  z_list : mg "list" = none
  z_max : mg "max" = none
  z_range : mg "range" = none
  z_tuple : mg "tuple" = none
structure Txt (P : Program) (K : PySem.W.Frag) (mg : Str → Option Value) (base : Heap) extends Txt0 K mg where
  seer : base.NoSeer
  tree : P.given.tree = none

section
variable {P : Program} {w : World} {K : PySem.W.Frag} {mg : Str → Option Value} {base : Heap}
def sp_greatest : Sp := fun vs H Q _ => ∃ (i j : Int), vs = [.int i, .int j] ∧ NR Q (.int (Nat.gcd i.natAbs j.natAbs : Nat)) H []
theorem WC_greatest {H0 : Hp} {fs : Fs} {Φ : CV} {i j : Int} (q : Φ (.int (Nat.gcd i.natAbs j.natAbs : Nat)) fs) : WC sp_greatest [.int i, .int j] H0 fs Φ :=
  fun H k Q E c => ⟨i, j, rfl, fun H' k' => c _ _ _ (k.app k') q⟩
theorem ok_greatest (T : Txt P K mg base) : FnOk P w K mg base CX0 41 T.a_greatest T.d_greatest ["one", "other"] sp_greatest := by
  refine T.F_greatest.ok sc_greatest (fun vs H Q E h => ?_) (fun cdv A outer s H vs Q E hr h => ?_)
  · obtain ⟨i, j, rfl, _⟩ := h; rfl
  · obtain ⟨i, j, rfl, q⟩ := h
    refine ⟨_, (pss_cons (ps_set (i := 0) sc_greatest.nd rfl (Or.inl rfl) (pe_callB cAbs (by rfl) T.z_abs (by decide +kernel) (pa_cons (pv 0) pa_nil)))
      (pss_cons (ps_set (i := 1) sc_greatest.nd rfl (Or.inl rfl) (pe_callB cAbs (by rfl) T.z_abs (by decide +kernel) (pa_cons (pv 1) pa_nil)))
      (pss_cons (ps_while PassesOwn.never (pt_cmpR op_gt (pv 1) pe_int (nomark _)) (pss_cons (ps_set (i := 2) sc_greatest.nd rfl (Or.inl rfl) (pe_op op_mod (pv 0) (pv 1)))
      (pss_cons (ps_set (i := 0) sc_greatest.nd rfl (Or.inl rfl) (pv 1))
      (pss_one (ps_set (i := 1) sc_greatest.nd rfl (Or.inl rfl) (pv 2))))))
      (pss_one (ps_ret (pv 0)))))), ?_⟩
    refine N.go (σ := [some (.int i), some (.int j), none]) ?_
    walk_at "w"
    walk_at "d"
    walk_at "w"
    walk_at "d"
    walk_at "w"
    refine S.while_ (fun m σ f => ∃ x z, σ = [some (.int ((x : Nat) : Int)), some (.int (m : Int)), z] ∧ f = [] ∧ Nat.gcd x m = Nat.gcd i.natAbs j.natAbs) j.natAbs ⟨i.natAbs, none, rfl, rfl, rfl⟩ ?_
    rintro m σ f ⟨x, z, rfl, rfl, hg⟩
    walk_at "w"
    walk_at "if"
    · rename_i hp
      have hm : 0 < m := by omega
      walk_at "w"
      walk_at "d"
      walk_at "w"
      walk_at "d"
      walk_at "w"
      walk_at "d"
      have e : ((x : Int) % (m : Int)) = ((x % m : Nat) : Int) := (Int.natCast_emod x m).symm
      rw [e]
      refine Wl.nx (m' := x % m) (Nat.mod_lt _ hm) ⟨m, _, rfl, rfl, ?_⟩
      rw [← hg, Nat.gcd_comm x m, Nat.gcd_rec m x, Nat.gcd_comm]
    · rename_i hp
      have hm : m = 0 := by omega
      subst hm
      rw [Nat.gcd_zero_right] at hg
      walk_at "w"
      rw [hg]
      exact NR.sub q (by walk_at "sub")

end

section
variable {P : Program} {w : World} {K : PySem.W.Frag} {mg : Str → Option Value} {base : Heap}
def sp_content : Sp := fun vs H Q _ => ∃ (a : Addr) (xs : List Int), vs = [.ref a] ∧ H a = some (.lst (zV xs)) ∧ NR Q (.int (cont xs : Int)) H []
theorem WC_content {H0 : Hp} {fs : Fs} {Φ : CV} {a : Addr} {xs : List Int} (h : Rx H0 fs a (.lst (zV xs))) (q : Φ (.int (cont xs : Int)) fs) : WC sp_content [.ref a] H0 fs Φ :=
  fun H k Q E c => ⟨a, xs, rfl, h H k, fun H' k' => c _ _ _ (k.app k') q⟩
theorem ok_content (T : Txt P K mg base) : FnOk P w K mg base CX0 42 T.a_content T.d_content ["row"] sp_content := by
  refine T.F_content.ok sc_content (fun vs H Q E h => ?_) (fun cdv A outer s H vs Q E hr h => ?_)
  · obtain ⟨a, xs, rfl, _⟩ := h; rfl
  · obtain ⟨a, xs, rfl, hA, q⟩ := h
    refine ⟨_, (pss_cons (ps_set (i := 1) sc_content.nd rfl (Or.inl rfl) pe_int)
      (pss_cons (ps_for PassesOwn.never rfl (pi_list (pv 0)) (pg_name (i := 2) sc_content.nd rfl (Or.inl rfl)) (pss_one (ps_set (i := 1) sc_content.nd rfl (Or.inl rfl) (pe_call (ok_greatest T) (hr.mono (by decide)) (by rfl) T.m_greatest T.F_greatest.kp T.b_greatest .nil pass0 (pa_cons (pv 1) (pa_cons (pv 2) pa_nil))))))
      (pss_one (ps_ret (pv 1))))), ?_⟩
    refine N.go (σ := [some (.ref a), none, none]) ?_
    walk_at "w"
    walk_at "d"
    refine S.forZ (a := a) (ns := xs) (fun i σ f => ∃ y, σ = [some (.ref a), some (.int (cont (xs.take i) : Int)), y] ∧ f = []) ?_ ?_ ?_ ?_
    · walk_at "w"
      exact ⟨rfl, by walk_at "rl", none, rfl, rfl⟩
    · rintro i σ f ⟨y, rfl, rfl⟩
      walk_at "rl"
    · rintro i σ f hi ⟨y, rfl, rfl⟩
      walk_at "d"
      walk_at "w"
      refine WC_greatest ?_
      walk_at "d"
      rw [Int.natAbs_natCast, ← cont_snoc, ← take_succ_getD hi]
      walk_at "lp"
      exact ⟨_, rfl, rfl⟩
    · rintro σ f ⟨y, rfl, rfl⟩
      rw [List.take_length]
      walk_at "w"
      exact NR.sub q (by walk_at "sub")

end

section
variable {P : Program} {w : World} {K : PySem.W.Frag} {mg : Str → Option Value} {base : Heap}
def sp_signed_content : Sp := fun vs H Q _ => ∃ (a : Addr) (xs : List Int), vs = [.ref a] ∧ H a = some (.lst (zV xs)) ∧ NR Q (.int (sgc xs)) H []
theorem WC_signed_content {H0 : Hp} {fs : Fs} {Φ : CV} {a : Addr} {xs : List Int} (h : Rx H0 fs a (.lst (zV xs))) (q : Φ (.int (sgc xs)) fs) : WC sp_signed_content [.ref a] H0 fs Φ :=
  fun H k Q E c => ⟨a, xs, rfl, h H k, fun H' k' => c _ _ _ (k.app k') q⟩
theorem ok_signed_content (T : Txt P K mg base) : FnOk P w K mg base CX0 43 T.a_signed_content T.d_signed_content ["row"] sp_signed_content := by
  refine T.F_signed_content.ok sc_signed_content (fun vs H Q E h => ?_) (fun cdv A outer s H vs Q E hr h => ?_)
  · obtain ⟨a, xs, rfl, _⟩ := h; rfl
  · obtain ⟨a, xs, rfl, hA, q⟩ := h
    refine ⟨_, (pss_cons (ps_if (PW.pt (pw_and (pt_cmpR (op_neD hr.units) (pv 0) (pe_lst pa_nil) (nomark _)) (pw_and1 (pt_cmpR op_lt (pe_ix ix_list (pv 0) (pe_un un_neg pe_int) (fun _ _ => rfl)) pe_int (nomark _))))) (pss_one (ps_ret (pe_un un_neg (pe_call (ok_content T) (hr.mono (by decide)) (by rfl) T.m_content T.F_content.kp T.b_content .nil pass0 (pa_cons (pv 0) pa_nil))))) pss_nil)
      (pss_one (ps_ret (pe_call (ok_content T) (hr.mono (by decide)) (by rfl) T.m_content T.F_content.kp T.b_content .nil pass0 (pa_cons (pv 0) pa_nil))))), ?_⟩
    refine N.go (σ := [some (.ref a)]) ?_
    walk_at "w"
    intro z
    walk_at "w"
    walk_at "if"
    · rename_i hne
      have hlast : atI (zV xs) (-1) = some (.int (xs.getLast hne)) := atI_lastI hne
      have hg : xs.getLast?.getD 0 = xs.getLast hne := by rw [List.getLast?_eq_some_getLast hne]; rfl
      walk_at "w"
      refine RW.ixL (by walk_at "rl") hlast ?_
      walk_at "w"
      walk_at "if"
      · rename_i hneg
        walk_at "w"
        refine WC_content (xs := xs) (by walk_at "rx") ?_
        walk_at "w"
        unfold sgc at q
        rw [hg, if_pos hneg] at q
        exact NR.sub q (by walk_at "sub")
      · rename_i hneg
        walk_at "w"
        refine WC_content (xs := xs) (by walk_at "rx") ?_
        unfold sgc at q
        rw [hg, if_neg hneg] at q
        exact NR.sub q (by walk_at "sub")
    · rename_i hne
      walk_at "w"
      refine WC_content (xs := xs) (by walk_at "rx") ?_
      have e : xs = [] := by simpa using hne
      subst e
      exact NR.sub q (by walk_at "sub")

end

section
variable {P : Program} {w : World} {K : PySem.W.Frag} {mg : Str → Option Value} {base : Heap}
def sp_simple : Sp := fun vs H Q _ => ∃ (a : Addr) (xs : List Int), vs = [.ref a] ∧ H a = some (.lst (zV xs)) ∧ xs.length ≤ 90000 ∧ Tr xs ∧ ∀ p, NR Q (.ref p) H [(p, .lst (zV (simp' xs)))]
theorem WC_simple {H0 : Hp} {fs : Fs} {Φ : CV} {a : Addr} {xs : List Int} (h : Rx H0 fs a (.lst (zV xs))) (hl : xs.length ≤ 90000) (ht : Tr xs) (q : ∀ p, Φ (.ref p) ((p, .lst (zV (simp' xs))) :: fs)) : WC sp_simple [.ref a] H0 fs Φ :=
  fun H k Q E c => ⟨a, xs, rfl, h H k, hl, ht, fun p H' k' => c _ _ _ (k.app k') (q p)⟩
theorem ok_simple (T : Txt P K mg base) : FnOk P w K mg base CX0 44 T.a_simple T.d_simple ["row"] sp_simple := by
  refine T.F_simple.ok sc_simple (fun vs H Q E h => ?_) (fun cdv A outer s H vs Q E hr h => ?_)
  · obtain ⟨a, xs, rfl, _⟩ := h; rfl
  · obtain ⟨a, xs, rfl, hA, hl, hc, q⟩ := h
    refine ⟨_, (pss_cons (ps_set (i := 1) sc_simple.nd rfl (Or.inr rfl) (pe_call (ok_signed_content T) (hr.mono (by decide)) (by rfl) T.m_signed_content T.F_signed_content.kp T.b_signed_content .nil pass0 (pa_cons (pv 0) pa_nil)))
      (pss_one (ps_ret (pe_lc (own := [("number", 2)]) (g := gName 2) (tt := tYes) rfl sc_simple.nd (pi_list (pv 0)) (blkOk_by (own := [("number", 2)]) (N := ["row", "by", "number"]) (sc := defScope s_simple) (by decide +kernel)) (fun _ _ _ _ _ => pg_name (i := 2) sc_simple.nd rfl (Or.inl rfl)) (fun _ _ _ _ _ => pts_nil) (fun _ _ _ _ _ => (pe_op (op_fdivP (Big.of T.seer hr (by decide) ⟨_, _, rfl, rfl, rfl, rfl, rfl⟩) T.tree) (pv 2) (pv 1))))))), ?_⟩
    refine N.go (σ := [some (.ref a), none, none]) ?_
    walk_at "w"
    refine WC_signed_content (xs := xs) (by walk_at "rx") ?_
    walk_at "d"
    walk_at "w"
    refine W.lcZz (ns := xs) (fun x => x.fdiv (sgc xs)) ?_
    walk_at "w"
    refine ⟨by walk_at "rl", by omega, fun _ => rfl, fun x D acc hx => ?_, fun D => ?_⟩
    · walk_at "d"
      have hcx : CDivP x (sgc xs) := sgc_ne hc (List.ne_nil_of_mem hx)
      walk_at "w"
      exact ⟨rfl, by walk_at "sub"⟩
    · walk_at "w"
      exact NR.sub (q D) (by walk_at "sub")

end

section
variable {P : Program} {w : World} {K : PySem.W.Frag} {mg : Str → Option Value} {base : Heap}
def sp_trimmed : Sp := fun vs H Q _ => ∃ (a : Addr) (xs : List Int), vs = [.ref a] ∧ H a = some (.lst (zV xs)) ∧ xs.length ≤ 100000 ∧ ∀ p, NR Q (.ref p) H [(p, .lst (zV (trim xs)))]
theorem WC_trimmed {H0 : Hp} {fs : Fs} {Φ : CV} {a : Addr} {xs : List Int} (h : Rx H0 fs a (.lst (zV xs))) (hl : xs.length ≤ 100000) (q : ∀ p, Φ (.ref p) ((p, .lst (zV (trim xs))) :: fs)) : WC sp_trimmed [.ref a] H0 fs Φ :=
  fun H k Q E c => ⟨a, xs, rfl, h H k, hl, fun p H' k' => c _ _ _ (k.app k') (q p)⟩
theorem ok_trimmed (T : Txt P K mg base) : FnOk P w K mg base CX0 41 T.a_trimmed T.d_trimmed ["row"] sp_trimmed := by
  refine T.F_trimmed.ok sc_trimmed (fun vs H Q E h => ?_) (fun cdv A outer s H vs Q E hr h => ?_)
  · obtain ⟨a, xs, rfl, _⟩ := h; rfl
  · obtain ⟨a, xs, rfl, hA, hl, q⟩ := h
    refine ⟨_, (pss_cons (ps_set (i := 1) sc_trimmed.nd rfl (Or.inl rfl) (pe_callB cLen (by rfl) T.z_len PySem.boot_len (pa_cons (pv 0) pa_nil)))
      (pss_cons (ps_while PassesOwn.never (PW.pt (pw_and (pt_cmpR op_gt (pv 1) pe_int (nomark _)) (pw_and1 (pt_cmpR op_eq (pe_ix ix_list (pv 0) (pe_op op_sub (pv 1) pe_int) (fun _ _ => rfl)) pe_int (nomark _))))) (pss_one (ps_set (i := 1) sc_trimmed.nd rfl (Or.inl rfl) (pe_op op_sub (pv 1) pe_int))))
      (pss_one (ps_ret (pe_slice sl_list (pv 0) po_none (po_some (pv 1))))))), ?_⟩
    refine N.go (σ := [some (.ref a), none]) ?_
    walk_at "w"
    refine S.while_ (fun m σ f => σ = [some (.ref a), some (.int (m : Int))] ∧ f = [] ∧ m ≤ xs.length ∧ trim xs = trim (xs.take m)) xs.length ⟨rfl, rfl, Nat.le_refl _, by rw [List.take_length]⟩ ?_
    rintro m σ f ⟨rfl, rfl, hm, ht⟩
    walk_at "w"
    walk_at "if"
    · walk_at "w"
      walk_at "if"
      · -- one nought less
        walk_at "w"
        rename_i h1 h2
        have em : ((m : Int) - 1) = ((m - 1 : Nat) : Int) := by omega
        rw [em]
        refine Wl.nx (m' := m - 1) (by omega) ⟨rfl, rfl, by omega, ?_⟩
        rw [ht]
        have e2 : m = (m - 1) + 1 := by omega
        rw [em, gat_nat] at h2
        rw [e2, take_succ_getD (by omega : m - 1 < xs.length), h2, trim_zero]
        rfl
      · walk_at "w"
        rename_i h1 h2
        intro l
        have em : ((m : Int) - 1) = ((m - 1 : Nat) : Int) := by omega
        have e2 : m = (m - 1) + 1 := by omega
        rw [em, gat_nat] at h2
        have e3 : trim xs = xs.take m := by
          rw [ht, e2, take_succ_getD (by omega : m - 1 < xs.length), trim_last _ h2]
        rw [e3] at q
        have e4 : ((m : Int)).toNat = m := by simp
        rw [e4]
        exact NR.sub (q l) (by walk_at "sub")
    · walk_at "w"
      rename_i h1
      intro l
      have e0 : m = 0 := by omega
      subst e0
      have e3 : trim xs = [] := by rw [ht]; rfl
      rw [e3] at q
      exact NR.sub (q l) (by walk_at "sub")

end

section
variable {P : Program} {w : World} {K : PySem.W.Frag} {mg : Str → Option Value} {base : Heap}
def sp_number_at (K : PySem.W.Frag) : Sp := fun vs H Q _ => ∃ (a : Addr) (ns : List Int) (i : Int), vs = [.ref a, .int i] ∧ SqL K H a (zV ns) ∧ 0 ≤ i ∧ NR Q (.int (gat ns i)) H []
theorem WC_number_at {K : PySem.W.Frag} {H0 : Hp} {fs : Fs} {Φ : CV} {a : Addr} {ns : List Int} {i : Int} (h : Rl K H0 fs a (zV ns)) (hi : 0 ≤ i) (q : Φ (.int (gat ns i)) fs) : WC (sp_number_at K) [.ref a, .int i] H0 fs Φ :=
  fun H k Q E c => ⟨a, ns, i, rfl, h H k, hi, fun H' k' => c _ _ _ (k.app k') q⟩
theorem ok_number_at (T : Txt P K mg base) : FnOk P w K mg base CX0 41 T.a_number_at T.d_number_at ["row", "place"] (sp_number_at K) := by
  refine T.F_number_at.ok sc_number_at (fun vs H Q E h => ?_) (fun cdv A outer s H vs Q E hr h => ?_)
  · obtain ⟨a, ns, i, rfl, _⟩ := h; rfl
  · obtain ⟨a, ns, i, rfl, hS, h0, q⟩ := h
    refine ⟨_, (pss_cons (ps_if (pt_cmpR op_lt (pv 1) (pe_callB cLen (by rfl) T.z_len PySem.boot_len (pa_cons (pv 0) pa_nil)) (nomark _)) (pss_one (ps_ret (pe_ix ix_list (pv 0) (pv 1) (fun _ _ => rfl)))) pss_nil)
      (pss_one (ps_ret pe_int))), ?_⟩
    refine N.go (σ := [some (.ref a), some (.int i)]) ?_
    walk_at "w"
    walk_at "if"
    · walk_at "w"
      walk_at "fin"
    · walk_at "w"
      have e : gat ns i = 0 := by
        unfold gat
        rw [List.getD_eq_getElem?_getD, List.getElem?_eq_none (by omega)]; rfl
      rw [e] at q
      walk_at "fin"

end

section
variable {P : Program} {w : World} {K : PySem.W.Frag} {mg : Str → Option Value} {base : Heap}
def sp_minus : Sp := fun vs H Q _ => ∃ (a b : Addr) (xs ys : List Int), vs = [.ref a, .ref b] ∧ H a = some (.lst (zV xs)) ∧ H b = some (.lst (zV ys)) ∧ (xs.length ≤ 90000 ∧ ys.length ≤ 90000) ∧ ∀ p, NR Q (.ref p) H [(p, .lst (zV (minus xs ys)))]
theorem WC_minus {H0 : Hp} {fs : Fs} {Φ : CV} {a b : Addr} {xs ys : List Int} (h : Rx H0 fs a (.lst (zV xs))) (h2 : Rx H0 fs b (.lst (zV ys))) (hl : xs.length ≤ 90000 ∧ ys.length ≤ 90000) (q : ∀ p, Φ (.ref p) ((p, .lst (zV (minus xs ys))) :: fs)) : WC sp_minus [.ref a, .ref b] H0 fs Φ :=
  fun H k Q E c => ⟨a, b, xs, ys, rfl, h H k, h2 H k, hl, fun p H' k' => c _ _ _ (k.app k') (q p)⟩
theorem ok_minus (T : Txt P K mg base) : FnOk P w K mg base CX0 42 T.a_minus T.d_minus ["ones", "others"] sp_minus := by
  refine T.F_minus.ok sc_minus (fun vs H Q E h => ?_) (fun cdv A outer s H vs Q E hr h => ?_)
  · obtain ⟨a, b, xs, ys, rfl, _⟩ := h; rfl
  · obtain ⟨a, b, xs, ys, rfl, hA, hB, hl, q⟩ := h
    refine ⟨_, (pss_cons (ps_set (i := 2) sc_minus.nd rfl (Or.inl rfl) (pe_callB (cMax2 rfl) (by rfl) T.z_max (by decide +kernel) (pa_cons (pe_callB cLen (by rfl) T.z_len PySem.boot_len (pa_cons (pv 0) pa_nil)) (pa_cons (pe_callB cLen (by rfl) T.z_len PySem.boot_len (pa_cons (pv 1) pa_nil)) pa_nil))))
      (pss_one (ps_ret (pe_call (ok_trimmed T) (hr.mono (by decide)) (by rfl) T.m_trimmed T.F_trimmed.kp T.b_trimmed .nil pass0 (pa_cons (pe_lc (own := [("k", 3)]) (g := gName 3) (tt := tYes) rfl sc_minus.nd (pi_range1 rfl T.z_range (pa_cons (pv 2) pa_nil)) (blkOk_by (own := [("k", 3)]) (N := ["ones", "others", "size", "k"]) (sc := defScope s_minus) (by decide +kernel)) (fun _ _ _ _ _ => pg_name (i := 3) sc_minus.nd rfl (Or.inl rfl)) (fun _ _ _ _ _ => pts_nil) (fun _ _ _ _ _ => (pe_op op_sub (pe_call (ok_number_at T) (hr.mono (by decide)) (by rfl) T.m_number_at T.F_number_at.kp T.b_number_at .nil pass0 (pa_cons (pv 0) (pa_cons (pv 3) pa_nil))) (pe_call (ok_number_at T) (hr.mono (by decide)) (by rfl) T.m_number_at T.F_number_at.kp T.b_number_at .nil pass0 (pa_cons (pv 1) (pa_cons (pv 3) pa_nil)))))) pa_nil))))), ?_⟩
    refine N.go (σ := [some (.ref a), some (.ref b), none, none]) ?_
    walk_at "w"
    walk_at "d"
    walk_at "w"
    refine W.lcRz (n := max (xs.length : Int) (ys.length : Int)) (fun k => gat xs (k : Int) - gat ys (k : Int)) ?_
    walk_at "w"
    refine ⟨rfl, by omega, by omega, fun _ => rfl, fun i D acc hi => ?_, fun D => ?_⟩
    · walk_at "d"
      walk_at "w"
      refine WC_number_at (ns := xs) (by walk_at "rl") (by omega) ?_
      walk_at "w"
      refine WC_number_at (ns := ys) (by walk_at "rl") (by omega) ?_
      walk_at "w"
      exact ⟨rfl, by walk_at "sub"⟩
    · walk_at "w"
      refine WC_trimmed (by walk_at "rx") (by simp; omega) fun p => ?_
      exact NR.sub (q p) (by walk_at "sub")

end

section
variable {P : Program} {w : World} {K : PySem.W.Frag} {mg : Str → Option Value} {base : Heap}
def sp_scaled : Sp := fun vs H Q _ => ∃ (a : Addr) (xs : List Int) (m : Int) (b c : Nat), vs = [.ref a, .int m] ∧ H a = some (.lst (zV xs)) ∧ xs.length ≤ 90000 ∧ BdL b xs ∧ Bd c m ∧ b + c ≤ 134217728 ∧ ∀ p, NR Q (.ref p) H [(p, .lst (zV (scaled xs m)))]
theorem WC_scaled {H0 : Hp} {fs : Fs} {Φ : CV} {a : Addr} {xs : List Int} {m : Int} (b c : Nat) (h : Rx H0 fs a (.lst (zV xs))) (hl : xs.length ≤ 90000) (hb : BdL b xs) (hc : Bd c m) (hbc : b + c ≤ 134217728) (q : ∀ p, Φ (.ref p) ((p, .lst (zV (scaled xs m))) :: fs)) : WC sp_scaled [.ref a, .int m] H0 fs Φ :=
  fun H k Q E cc => ⟨a, xs, m, b, c, rfl, h H k, hl, hb, hc, hbc, fun p H' k' => cc _ _ _ (k.app k') (q p)⟩
theorem ok_scaled (T : Txt P K mg base) : FnOk P w K mg base CX0 42 T.a_scaled T.d_scaled ["row", "many"] sp_scaled := by
  refine T.F_scaled.ok sc_scaled (fun vs H Q E h => ?_) (fun cdv A outer s H vs Q E hr h => ?_)
  · obtain ⟨a, xs, m, b, c, rfl, _⟩ := h; rfl
  · obtain ⟨a, xs, m, b, c, rfl, hA, hl, hb, hc, hbc, q⟩ := h
    refine ⟨_, (pss_one (ps_ret (pe_call (ok_trimmed T) (hr.mono (by decide)) (by rfl) T.m_trimmed T.F_trimmed.kp T.b_trimmed .nil pass0 (pa_cons (pe_lc (own := [("number", 2)]) (g := gName 2) (tt := tYes) rfl sc_scaled.nd (pi_list (pv 0)) (blkOk_by (own := [("number", 2)]) (N := ["row", "many", "number"]) (sc := defScope s_scaled) (by decide +kernel)) (fun _ _ _ _ _ => pg_name (i := 2) sc_scaled.nd rfl (Or.inl rfl)) (fun _ _ _ _ _ => pts_nil) (fun _ _ _ _ _ => (pe_op op_mulG (pv 1) (pv 2)))) pa_nil)))), ?_⟩
    refine N.go (σ := [some (.ref a), some (.int m), none]) ?_
    walk_at "w"
    refine W.lcZz (ns := xs) (fun x => m * x) ?_
    walk_at "w"
    refine ⟨by walk_at "rl", by omega, fun _ => rfl, fun x D acc hx => ?_, fun D => ?_⟩
    · walk_at "d"
      have hok : IntMulOk m x := mulB hc (hb x hx) (by omega)
      walk_at "w"
      exact ⟨rfl, by walk_at "sub"⟩
    · walk_at "w"
      refine WC_trimmed (by walk_at "rx") (by rw [List.length_map]; omega) fun p => ?_
      exact NR.sub (q p) (by walk_at "sub")

end

section
variable {P : Program} {w : World} {K : PySem.W.Frag} {mg : Str → Option Value} {base : Heap}
def sp_times : Sp := fun vs H Q _ => ∃ (a b : Addr) (xs ys : List Int) (m n : Nat), vs = [.ref a, .ref b] ∧ H a = some (.lst (zV xs)) ∧ H b = some (.lst (zV ys)) ∧ (xs.length ≤ 40000 ∧ ys.length ≤ 40000) ∧ BdL m xs ∧ BdL n ys ∧ m + n ≤ 134217728 ∧ ∀ p, NR Q (.ref p) H [(p, .lst (zV (tm xs ys)))]
theorem WC_times {H0 : Hp} {fs : Fs} {Φ : CV} {a b : Addr} {xs ys : List Int} (m n : Nat) (h : Rx H0 fs a (.lst (zV xs))) (h2 : Rx H0 fs b (.lst (zV ys))) (hl : xs.length ≤ 40000 ∧ ys.length ≤ 40000) (hm : BdL m xs) (hn : BdL n ys) (hmn : m + n ≤ 134217728)
    (q : ∀ p, Φ (.ref p) ((p, .lst (zV (tm xs ys))) :: fs)) : WC sp_times [.ref a, .ref b] H0 fs Φ :=
  fun H k Q E c => ⟨a, b, xs, ys, m, n, rfl, h H k, h2 H k, hl, hm, hn, hmn, fun p H' k' => c _ _ _ (k.app k') (q p)⟩
theorem ok_times (T : Txt P K mg base) : FnOk P w K mg base CX0 42 T.a_times T.d_times ["ones", "others"] sp_times := by
  refine T.F_times.ok sc_times (fun vs H Q E h => ?_) (fun cdv A outer s H vs Q E hr h => ?_)
  · obtain ⟨a, b, xs, ys, m, n, rfl, _⟩ := h; rfl
  · obtain ⟨a, b, xs, ys, m, n, rfl, hA, hB, hl, hm, hn, hmn, q⟩ := h
    refine ⟨_, (pss_cons (ps_set (i := 2) sc_times.nd rfl (Or.inl rfl) (pe_op op_rep (pe_lst (pa_cons pe_int pa_nil)) (pe_op op_add (pe_callB cLen (by rfl) T.z_len PySem.boot_len (pa_cons (pv 0) pa_nil)) (pe_callB cLen (by rfl) T.z_len PySem.boot_len (pa_cons (pv 1) pa_nil)))))
      (pss_cons (ps_for PassesOwn.never rfl (pi_range1 rfl T.z_range (pa_cons (pe_callB cLen (by rfl) T.z_len PySem.boot_len (pa_cons (pv 0) pa_nil)) pa_nil)) (pg_name (i := 3) sc_times.nd rfl (Or.inl rfl)) (pss_one (ps_for PassesOwn.never rfl (pi_range1 rfl T.z_range (pa_cons (pe_callB cLen (by rfl) T.z_len PySem.boot_len (pa_cons (pv 1) pa_nil)) pa_nil)) (pg_name (i := 4) sc_times.nd rfl (Or.inl rfl)) (pss_one (ps_asg (pe_op op_add (pe_ix ix_list (pv 2) (pe_op op_add (pv 3) (pv 4)) (fun _ _ => rfl)) (pe_op op_mulG (pe_ix ix_list (pv 0) (pv 3) (fun _ _ => rfl)) (pe_ix ix_list (pv 1) (pv 4) (fun _ _ => rfl)))) (pg_sub (pv 2) (pe_op op_add (pv 3) (pv 4)) set_list))))))
      (pss_one (ps_ret (pe_call (ok_trimmed T) (hr.mono (by decide)) (by rfl) T.m_trimmed T.F_trimmed.kp T.b_trimmed .nil pass0 (pa_cons (pv 2) pa_nil)))))), ?_⟩
    refine N.go (σ := [some (.ref a), some (.ref b), none, none, none]) ?_
    walk_at "w"
    intro z
    walk_at "w"
    refine RW.rep (x := 0) (by walk_at "rx") (by omega) fun p => ?_
    have e0 : ((xs.length : Int) + (ys.length : Int)).toNat = xs.length + ys.length := by omega
    rw [e0]
    walk_at "d"
    walk_at "w"
    refine S.forR (n := (xs.length : Int)) (fun i σ f => ∃ y1 y2, σ = [some (.ref a), some (.ref b), some (.ref p), y1, y2] ∧ f = [(p, .lst (zV (lp (tmRow xs ys) i (List.replicate (xs.length + ys.length) 0)))), (z, .lst (zV [0]))]) ?_ ?_ ?_
    · walk_at "w"
      refine ⟨rfl, by omega, by omega, none, none, rfl, rfl⟩
    · rintro i σ f hi ⟨y1, y2, rfl, rfl⟩
      walk_at "d"
      have hacc : (lp (tmRow xs ys) i (List.replicate (xs.length + ys.length) 0)).length = xs.length + ys.length := by
        rw [lp_len (fun i a => tmRow_len _ _ _ _), List.length_replicate]
      have hnext : lp (tmRow xs ys) (i + 1) (List.replicate (xs.length + ys.length) 0) = tmRow xs ys i (lp (tmRow xs ys) i (List.replicate (xs.length + ys.length) 0)) := rfl
      rw [show (fun (i : Nat) (σ : St) (f : Fs) => ∃ y1 y2, σ = [some (.ref a), some (.ref b), some (.ref p), y1, y2] ∧ f = [(p, .lst (zV (lp (tmRow xs ys) i (List.replicate (xs.length + ys.length) 0)))), (z, .lst (zV [0]))]) = (fun (i : Nat) (σ : St) (f : Fs) => ∃ y1 y2, σ = [some (.ref a), some (.ref b), some (.ref p), y1, y2] ∧ f = [(p, .lst (zV (lp (tmRow xs ys) i (List.replicate (xs.length + ys.length) 0)))), (z, .lst (zV [0]))]) from rfl]
      generalize hA0 : lp (tmRow xs ys) i (List.replicate (xs.length + ys.length) 0) = acc at hacc hnext
      refine S.forR (n := (ys.length : Int)) (fun k σ f => ∃ y2, σ = [some (.ref a), some (.ref b), some (.ref p), some (.int (i : Int)), y2] ∧ f = [(p, .lst (zV (lp (tmIn (xs.getD i 0) ys i) k acc))), (z, .lst (zV [0]))]) ?_ ?_ ?_
      · walk_at "w"
        refine ⟨rfl, by omega, by omega, y2, rfl, rfl⟩
      · rintro k σ f hk ⟨y2, rfl, rfl⟩
        walk_at "d"
        have hlen : (lp (tmIn (xs.getD i 0) ys i) k acc).length = xs.length + ys.length := by
          rw [lp_len (fun i a => tmIn_len _ _ _ _ _)]; exact hacc
        have hok : IntMulOk (gat xs (i : Int)) (gat ys (k : Int)) := mulB (hm.gat _) (hn.gat _) hmn
        refine S.setL ?_
        walk_at "w"
        walk_at "set1"
        · rw [zV_length, hlen]; omega
        have ei : ((i : Int) + (k : Int)) = ((i + k : Nat) : Int) := by omega
        have e1 : ((i : Int) + (k : Int)).toNat = i + k := by omega
        rw [e1, zV_set, ei, gat_nat, gat_nat, gat_nat]
        walk_at "d"
        walk_at "lp"
        exact ⟨_, rfl, rfl⟩
      · rintro σ f ⟨y2, rfl, rfl⟩
        have ek : ((ys.length : Int)).toNat = ys.length := by simp
        rw [ek]
        walk_at "lp"
        refine ⟨_, y2, rfl, ?_⟩
        rw [hnext]
        rfl
    · rintro σ f ⟨y1, y2, rfl, rfl⟩
      have ek : ((xs.length : Int)).toNat = xs.length := by simp
      rw [ek]
      walk_at "w"
      have hlen := tmRaw_len xs ys
      refine WC_trimmed (xs := tmRaw xs ys) (by walk_at "rx") (by omega) fun r => ?_
      exact NR.sub (q r) (by walk_at "sub")

end

section
variable {P : Program} {w : World} {K : PySem.W.Frag} {mg : Str → Option Value} {base : Heap}
def sp_divided : Sp := fun vs H Q _ => ∃ (a b : Addr) (xs ys : List Int) (A B : Nat), vs = [.ref a, .ref b] ∧ H a = some (.lst (zV xs)) ∧ H b = some (.lst (zV ys)) ∧ (xs.length ≤ 40000 ∧ ys.length ≤ 40000) ∧ Tr ys ∧ ys ≠ [] ∧ BdL A xs ∧ BdL B ys ∧ A + (xs.length + 2 - ys.length) * (B + 1) + B + 1 ≤ 134217728 ∧
  ∀ (m : Int) (q r : List Int), Dv xs ys m q r → Bd ((xs.length + 1 - ys.length) * B + 1) m → BdL (A + (xs.length + 1 - ys.length) * (B + 1)) q → BdL (A + (xs.length + 1 - ys.length) * (B + 1)) r → q.length ≤ xs.length + 1 - ys.length → ∀ p1 p2 p, NR Q (.ref p) H [(p, .tup [.int m, .ref p1, .ref p2]), (p2, .lst (zV r)), (p1, .lst (zV q))]
theorem WC_divided {H0 : Hp} {fs : Fs} {Φ : CV} {a b : Addr} {xs ys : List Int} (A B : Nat) (h : Rx H0 fs a (.lst (zV xs))) (h2 : Rx H0 fs b (.lst (zV ys))) (hl : xs.length ≤ 40000 ∧ ys.length ≤ 40000) (ht : Tr ys) (hne : ys ≠ []) (hA : BdL A xs) (hB : BdL B ys) (hAB : A + (xs.length + 2 - ys.length) * (B + 1) + B + 1 ≤ 134217728)
    (c : ∀ (m : Int) (q r : List Int), Dv xs ys m q r → Bd ((xs.length + 1 - ys.length) * B + 1) m → BdL (A + (xs.length + 1 - ys.length) * (B + 1)) q → BdL (A + (xs.length + 1 - ys.length) * (B + 1)) r → q.length ≤ xs.length + 1 - ys.length → ∀ p1 p2 p, Φ (.ref p) ((p, .tup [.int m, .ref p1, .ref p2]) :: (p2, .lst (zV r)) :: (p1, .lst (zV q)) :: fs)) : WC sp_divided [.ref a, .ref b] H0 fs Φ :=
  fun H k Q E cc => ⟨a, b, xs, ys, A, B, rfl, h H k, h2 H k, hl, ht, hne, hA, hB, hAB, fun m q r d1 d2 d3 d4 d5 p1 p2 p H' k' => cc _ _ _ (k.app k') (c m q r d1 d2 d3 d4 d5 p1 p2 p)⟩
theorem ok_divided (T : Txt P K mg base) : FnOk P w K mg base CX0 42 T.a_divided T.d_divided ["row", "by"] sp_divided := by
  refine T.F_divided.ok sc_divided (fun vs H Q E h => ?_) (fun cdv A outer s H vs Q E hr h => ?_)
  · obtain ⟨a, b, xs, ys, A, B, rfl, _⟩ := h; rfl
  · obtain ⟨a, b, xs, ys, A, B, rfl, hXa, hXb, hl, ht, hne, hA, hB, hAB, c⟩ := h
    refine ⟨_, (pss_cons (ps_if (pt_cmpR (op_eqD hr.units) (pv 1) (pe_lst pa_nil) (nomark _)) (pss_one ps_never) pss_nil)
      (pss_cons (ps_set (i := 2) sc_divided.nd rfl (Or.inl rfl) pe_int)
      (pss_cons (ps_set (i := 3) sc_divided.nd rfl (Or.inl rfl) (pe_op op_rep (pe_lst (pa_cons pe_int pa_nil)) (pe_callB (cMax2 rfl) (by rfl) T.z_max (by decide +kernel) (pa_cons pe_int (pa_cons (pe_op op_add (pe_op op_sub (pe_callB cLen (by rfl) T.z_len PySem.boot_len (pa_cons (pv 0) pa_nil)) (pe_callB cLen (by rfl) T.z_len PySem.boot_len (pa_cons (pv 1) pa_nil))) pe_int) pa_nil)))))
      (pss_cons (ps_set (i := 4) sc_divided.nd rfl (Or.inl rfl) (pe_callTy cListOf (by rfl) T.z_list (by decide +kernel) (pa_cons (pv 0) pa_nil)))
      (pss_cons (ps_for PassesOwn.never rfl (pi_range1 rfl T.z_range (pa_cons (pe_callB cLen (by rfl) T.z_len PySem.boot_len (pa_cons (pv 3) pa_nil)) pa_nil)) (pg_name (i := 5) sc_divided.nd rfl (Or.inl rfl)) (pss_cons (ps_set (i := 6) sc_divided.nd rfl (Or.inl rfl) (pe_op op_sub (pe_op op_sub (pe_callB cLen (by rfl) T.z_len PySem.boot_len (pa_cons (pv 3) pa_nil)) pe_int) (pv 5)))
      (pss_cons (ps_set (i := 7) sc_divided.nd rfl (Or.inl rfl) (pe_ix ix_list (pv 4) (pe_op op_sub (pe_op op_add (pv 6) (pe_callB cLen (by rfl) T.z_len PySem.boot_len (pa_cons (pv 1) pa_nil))) pe_int) (fun _ _ => rfl)))
      (pss_one (ps_if (pt_cmpR op_ne (pv 7) pe_int (nomark _)) (pss_cons (ps_set (i := 8) sc_divided.nd rfl (Or.inr rfl) (pe_op (op_fdivP (Big.of T.seer hr (by decide) ⟨_, _, rfl, rfl, rfl, rfl, rfl⟩) T.tree) (pe_callB cAbs (by rfl) T.z_abs (by decide +kernel) (pa_cons (pe_ix ix_list (pv 1) (pe_un un_neg pe_int) (fun _ _ => rfl)) pa_nil)) (pe_call (ok_greatest T) (hr.mono (by decide)) (by rfl) T.m_greatest T.F_greatest.kp T.b_greatest .nil pass0 (pa_cons (pe_ix ix_list (pv 1) (pe_un un_neg pe_int) (fun _ _ => rfl)) (pa_cons (pv 7) pa_nil)))))
      (pss_cons (ps_set (i := 2) sc_divided.nd rfl (Or.inl rfl) (pe_op op_mulG (pv 2) (pv 8)))
      (pss_cons (ps_setLc (i := 3) (own := [("number", 10)]) (g := gName 10) (tt := tYes) rfl sc_divided.nd rfl rfl (sw_true rfl rfl rfl (by decide +kernel)) (pi_list (pv 3)) (blkOk_by (own := [("number", 10)]) (N := ["row", "by", "many", "found", "rest", "step", "place", "top", "more", "k", "number"]) (sc := defScope s_divided) (by decide +kernel)) (fun _ _ _ _ _ => pg_name (i := 10) sc_divided.nd rfl (Or.inl rfl)) (fun _ _ _ _ _ => pts_nil) (fun _ _ _ _ _ => (pe_op op_mulG (pv 8) (pv 10))))
      (pss_cons (ps_setLc (i := 4) (own := [("number", 10)]) (g := gName 10) (tt := tYes) rfl sc_divided.nd rfl rfl (sw_true rfl rfl rfl (by decide +kernel)) (pi_list (pv 4)) (blkOk_by (own := [("number", 10)]) (N := ["row", "by", "many", "found", "rest", "step", "place", "top", "more", "k", "number"]) (sc := defScope s_divided) (by decide +kernel)) (fun _ _ _ _ _ => pg_name (i := 10) sc_divided.nd rfl (Or.inl rfl)) (fun _ _ _ _ _ => pts_nil) (fun _ _ _ _ _ => (pe_op op_mulG (pv 8) (pv 10))))
      (pss_cons (ps_asg (pe_op (op_fdivP (Big.of T.seer hr (by decide) ⟨_, _, rfl, rfl, rfl, rfl, rfl⟩) T.tree) (pe_op op_mulG (pv 8) (pv 7)) (pe_ix ix_list (pv 1) (pe_un un_neg pe_int) (fun _ _ => rfl))) (pg_sub (pv 3) (pv 6) set_list))
      (pss_one (ps_for PassesOwn.never rfl (pi_range1 rfl T.z_range (pa_cons (pe_callB cLen (by rfl) T.z_len PySem.boot_len (pa_cons (pv 1) pa_nil)) pa_nil)) (pg_name (i := 9) sc_divided.nd rfl (Or.inl rfl)) (pss_one (ps_asg (pe_op op_sub (pe_ix ix_list (pv 4) (pe_op op_add (pv 6) (pv 9)) (fun _ _ => rfl)) (pe_op op_mulG (pe_ix ix_list (pv 3) (pv 6) (fun _ _ => rfl)) (pe_ix ix_list (pv 1) (pv 9) (fun _ _ => rfl)))) (pg_sub (pv 4) (pe_op op_add (pv 6) (pv 9)) set_list)))))))))) pss_nil)))))
      (pss_one (ps_ret (pe_tup (pa_cons (pv 2) (pa_cons (pe_call (ok_trimmed T) (hr.mono (by decide)) (by rfl) T.m_trimmed T.F_trimmed.kp T.b_trimmed .nil pass0 (pa_cons (pv 3) pa_nil)) (pa_cons (pe_call (ok_trimmed T) (hr.mono (by decide)) (by rfl) T.m_trimmed T.F_trimmed.kp T.b_trimmed .nil pass0 (pa_cons (pv 4) pa_nil)) pa_nil))))))))))), ?_⟩
    refine N.go (σ := [some (.ref a), some (.ref b), none, none, none, none, none, none, none, none, none]) ?_
    have hy : 0 < ys.length := List.length_pos_iff.mpr hne
    obtain ⟨n, hn⟩ : ∃ n, n = xs.length + 1 - ys.length := ⟨_, rfl⟩
    rw [← hn] at c
    have hlc : S ys (ys.length - 1) = ys.getLast hne := by
      rw [S_at, List.getD_eq_getElem?_getD, List.getElem?_eq_getElem (by omega), List.getLast_eq_getElem]; rfl
    have hlc0 : S ys (ys.length - 1) ≠ 0 := by rw [hlc]; exact tr_last ht hne
    have hlast : atI (zV ys) (-1) = some (.int (S ys (ys.length - 1))) := by rw [hlc]; exact atI_lastI hne
    have hlcb : Bd B (S ys (ys.length - 1)) := hB.at _
    walk_at "w"
    intro z
    walk_at "w"
    rw [decide_eq_false hne]
    walk_at "w"
    walk_at "d"
    walk_at "w"
    intro l0
    walk_at "w"
    refine RW.rep (x := 0) (by walk_at "rx") (by omega) fun pf => ?_
    have en : (max 0 ((xs.length : Int) - (ys.length : Int) + 1)).toNat = n := by omega
    rw [en]
    walk_at "d"
    walk_at "w"
    intro pr
    walk_at "d"
    refine N.sub [(pr, .lst (zV xs)), (pf, .lst (zV (List.replicate n 0)))] (by walk_at "sub") ?_
    refine S.forR (n := (n : Int)) (fun t σ f => ∃ m fl rl pf pr y5 y6 y7 y8 y9, σ = [some (.ref a), some (.ref b), some (.int m), some (.ref pf), some (.ref pr), y5, y6, y7, y8, y9, none] ∧ f = [(pr, .lst (zV rl)), (pf, .lst (zV fl))] ∧ t ≤ n ∧ DI xs ys A B n t m fl rl) ?_ ?_ ?_
    · walk_at "w"
      rw [List.length_replicate]
      exact ⟨rfl, by omega, by omega, 1, _, xs, pf, pr, none, none, none, none, none, rfl, rfl, Nat.zero_le _, DI.start hn hA⟩
    · rintro t σ f ht' ⟨m, fl, rl, pf, pr, y5, y6, y7, y8, y9, rfl, rfl, _, hD⟩
      have htn : t < n := by omega
      have hfl := hD.fl
      have hrl := hD.rl
      have htB : t * (B + 1) ≤ n * (B + 1) := Nat.mul_le_mul_right _ (by omega)
      have htB2 : t * B ≤ t * (B + 1) := Nat.mul_le_mul_left _ (by omega)
      have hn2 : (xs.length + 2 - ys.length) * (B + 1) = n * (B + 1) + (B + 1) := by
        rw [show xs.length + 2 - ys.length = n + 1 by omega, Nat.succ_mul]
      rw [hn2] at hAB
      walk_at "d"
      walk_at "w"
      have eP : (fl.length : Int) - 1 - (t : Int) = ((n - 1 - t : Nat) : Int) := by omega
      rw [eP]
      walk_at "d"
      walk_at "w"
      have eT : gat rl (((n - 1 - t : Nat) : Int) + (ys.length : Int) - 1) = S rl (n - 1 - t + ys.length - 1) := by
        rw [show ((n - 1 - t : Nat) : Int) + (ys.length : Int) - 1 = ((n - 1 - t + ys.length - 1 : Nat) : Int) by omega, gat_nat]; rfl
      rw [eT]
      walk_at "d"
      walk_at "w"
      walk_at "if"
      · rename_i htop
        have hD' := hD.step htn hn hy hB hlc0 htop
        obtain ⟨s1, s2, s3, s4, s5⟩ := step_facts hlc0 htop
        have htb : (S rl (n - 1 - t + ys.length - 1)).natAbs < 2 ^ (A + t * (B + 1)) := hD.rb.at _
        have hg0 : 0 < Nat.gcd (S ys (ys.length - 1)).natAbs (S rl (n - 1 - t + ys.length - 1)).natAbs := Nat.gcd_pos_of_pos_left _ (Int.natAbs_pos.mpr hlc0)
        have hdv : CDivP ((S ys (ys.length - 1)).natAbs : Int) ((Nat.gcd (S ys (ys.length - 1)).natAbs (S rl (n - 1 - t + ys.length - 1)).natAbs : Nat) : Int) := by
          show ((Nat.gcd (S ys (ys.length - 1)).natAbs (S rl (n - 1 - t + ys.length - 1)).natAbs : Nat) : Int) ≠ 0
          omega
        have hdv2 : CDivP (more (S ys (ys.length - 1)) (S rl (n - 1 - t + ys.length - 1)) * S rl (n - 1 - t + ys.length - 1)) (S ys (ys.length - 1)) := hlc0
        walk_at "w"
        refine RW.ixL (by walk_at "rl") hlast ?_
        walk_at "w"
        refine RW.ixL (by walk_at "rl") hlast ?_
        walk_at "w"
        refine WC_greatest ?_
        walk_at "w"
        rw [show ((S ys (ys.length - 1)).natAbs : Int).fdiv (Nat.gcd (S ys (ys.length - 1)).natAbs (S rl (n - 1 - t + ys.length - 1)).natAbs : Nat) = more (S ys (ys.length - 1)) (S rl (n - 1 - t + ys.length - 1)) from rfl]
        obtain ⟨top, hto⟩ : ∃ x, x = S rl (n - 1 - t + ys.length - 1) := ⟨_, rfl⟩
        obtain ⟨lc, hlcd⟩ : ∃ x, x = S ys (ys.length - 1) := ⟨_, rfl⟩
        rw [← hto, ← hlcd] at hD' s1 s2 s3 s4 s5 hdv2 ⊢
        rw [← hto] at htb
        rw [← hlcd] at hlast hlcb hlc0
        obtain ⟨v, hv⟩ : ∃ v, v = putv lc top := ⟨_, rfl⟩
        rw [← hv] at hD' s3 s4 s5
        obtain ⟨mo, hmo⟩ : ∃ mo, mo = more lc top := ⟨_, rfl⟩
        rw [← hmo] at hD' s1 s2 s3 s5 hdv2 ⊢
        have hv2 : (mo * top).fdiv lc = v := by rw [hv, hmo]; rfl
        have hmob : Bd B mo := Nat.lt_of_le_of_lt s2 hlcb
        have hvb : Bd (A + t * (B + 1)) v := Nat.lt_of_le_of_lt s4 htb
        have hok1 : IntMulOk m mo := mulB hD.mb hmob (by omega)
        have hok3 : IntMulOk mo top := mulB hmob htb (by omega)
        walk_at "w"
        walk_at "d"
        refine W.lcZz (ns := fl) (fun x => mo * x) ?_
        walk_at "w"
        refine ⟨by walk_at "rl", by omega, fun _ => rfl, fun x D acc hx => ?_, fun D1 => ?_⟩
        · walk_at "d"
          have hok : IntMulOk mo x := mulB hmob (hD.fb x hx) (by omega)
          walk_at "w"
          exact ⟨rfl, by walk_at "sub"⟩
        walk_at "d"
        walk_at "w"
        refine W.lcZz (ns := rl) (fun x => mo * x) ?_
        walk_at "w"
        refine ⟨by walk_at "rl", by omega, fun _ => rfl, fun x D acc hx => ?_, fun D2 => ?_⟩
        · walk_at "d"
          have hok : IntMulOk mo x := mulB hmob (hD.rb x hx) (by omega)
          walk_at "w"
          exact ⟨rfl, by walk_at "sub"⟩
        walk_at "d"
        walk_at "w"
        refine S.setL ?_
        walk_at "w"
        refine RW.ixL (by walk_at "rl") hlast ?_
        walk_at "w"
        rw [hv2]
        walk_at "w"
        walk_at "set1"
        · rw [zV_length, List.length_map]; omega
        have eP2 : (((n - 1 - t : Nat) : Int)).toNat = n - 1 - t := by omega
        rw [eP2, zV_set]
        walk_at "d"
        generalize hF : (fl.map fun x => mo * x).set (n - 1 - t) v = fl' at hD'
        have hfl' : fl'.length = n := hD'.fl
        have hfv : gat fl' ((n - 1 - t : Nat) : Int) = v := by
          rw [gat_nat, ← hF, getD_set, if_pos rfl, if_pos (by rw [List.length_map]; omega)]
        generalize hR : (rl.map fun x => mo * x) = rl0 at hD'
        have hrl0 : rl0.length = xs.length := by rw [← hR, List.length_map]; exact hrl
        refine N.sub [(D2, .lst (zV rl0)), (D1, .lst (zV fl'))] (by walk_at "sub") ?_
        refine S.forR (n := (ys.length : Int)) (fun k σ f => ∃ y, σ = [some (.ref a), some (.ref b), some (.int (m * mo)), some (.ref D1), some (.ref D2), some (.int (t : Int)), some (.int ((n - 1 - t : Nat) : Int)), some (.int top), some (.int mo), y, none] ∧ f = [(D2, .lst (zV (lp (sbIn v ys (n - 1 - t)) k rl0))), (D1, .lst (zV fl'))]) ?_ ?_ ?_
        · walk_at "w"
          exact ⟨rfl, by omega, by omega, y9, rfl, rfl⟩
        · rintro k σ f hk ⟨y, rfl, rfl⟩
          walk_at "d"
          have hlen : (lp (sbIn v ys (n - 1 - t)) k rl0).length = xs.length := by
            rw [sbIn_eq, lp_len (fun i a => tmIn_len _ _ _ _ _)]; exact hrl0
          have hok : IntMulOk v (gat ys (k : Int)) := mulB hvb (hB.gat _) (by omega)
          refine S.setL ?_
          walk_at "w"
          rw [hfv]
          walk_at "w"
          walk_at "set1"
          · rw [zV_length, hlen]; omega
          have ei : (((n - 1 - t : Nat) : Int) + (k : Int)) = ((n - 1 - t + k : Nat) : Int) := by omega
          have e1 : (((n - 1 - t : Nat) : Int) + (k : Int)).toNat = n - 1 - t + k := by omega
          rw [e1, zV_set, ei, gat_nat, gat_nat]
          walk_at "d"
          walk_at "lp"
          exact ⟨_, rfl, rfl⟩
        · rintro σ f ⟨y, rfl, rfl⟩
          have ek : ((ys.length : Int)).toNat = ys.length := by simp
          rw [ek]
          walk_at "lp"
          exact ⟨m * mo, fl', _, D1, D2, _, _, _, _, _, rfl, rfl, htn, hD'⟩
      · rename_i htop
        walk_at "w"
        walk_at "lp"
        exact ⟨m, fl, rl, pf, pr, _, _, _, _, _, rfl, rfl, htn, hD.skip htn hy htop⟩
    · rintro σ f ⟨m, fl, rl, pf, pr, y5, y6, y7, y8, y9, rfl, rfl, _, hD⟩
      have ek : ((n : Int)).toNat = n := by simp
      rw [ek] at hD
      have hD' := hD.dv hy
      have hfl := hD.fl
      have hrl := hD.rl
      walk_at "w"
      refine WC_trimmed (xs := fl) (by walk_at "rx") (by omega) fun p1 => ?_
      walk_at "w"
      refine WC_trimmed (xs := rl) (by walk_at "rx") (by omega) fun p2 => ?_
      walk_at "w"
      refine ⟨by simp, fun p => ?_⟩
      exact NR.sub (c m (trim fl) (trim rl) hD' hD.mb hD.fb.trim hD.rb.trim (Nat.le_trans (trim_length_le _) (by omega)) p1 p2 p) (by walk_at "sub")

end

section
variable {P : Program} {w : World} {K : PySem.W.Frag} {mg : Str → Option Value} {base : Heap}
def sp_quotient : Sp := fun vs H Q _ => ∃ (a b : Addr) (xs ys q : List Int) (A B : Nat), vs = [.ref a, .ref b] ∧ H a = some (.lst (zV xs)) ∧ H b = some (.lst (zV ys)) ∧ (xs.length ≤ 40000 ∧ ys.length ≤ 40000) ∧ Tr ys ∧ ys ≠ [] ∧ BdL A xs ∧ BdL B ys ∧ A + (xs.length + 2 - ys.length) * (B + 1) + B + 1 ≤ 134217728 ∧
  Whole xs ys q ∧ (BdL (A + (xs.length + 1 - ys.length) * (B + 1)) q → ∀ p, NR Q (.ref p) H [(p, .lst (zV q))])
theorem WC_quotient {H0 : Hp} {fs : Fs} {Φ : CV} {a b : Addr} {xs ys : List Int} (q : List Int) (A B : Nat) (h : Rx H0 fs a (.lst (zV xs))) (h2 : Rx H0 fs b (.lst (zV ys))) (hl : xs.length ≤ 40000 ∧ ys.length ≤ 40000) (ht : Tr ys) (hne : ys ≠ []) (hA : BdL A xs) (hB : BdL B ys) (hAB : A + (xs.length + 2 - ys.length) * (B + 1) + B + 1 ≤ 134217728)
    (hw : Whole xs ys q) (c : BdL (A + (xs.length + 1 - ys.length) * (B + 1)) q → ∀ p, Φ (.ref p) ((p, .lst (zV q)) :: fs)) : WC sp_quotient [.ref a, .ref b] H0 fs Φ :=
  fun H k Q E cc => ⟨a, b, xs, ys, q, A, B, rfl, h H k, h2 H k, hl, ht, hne, hA, hB, hAB, hw, fun hb p H' k' => cc _ _ _ (k.app k') (c hb p)⟩
theorem ok_quotient (T : Txt P K mg base) : FnOk P w K mg base CX0 43 T.a_quotient T.d_quotient ["row", "by"] sp_quotient := by
  refine T.F_quotient.ok sc_quotient (fun vs H Q E h => ?_) (fun cdv A outer s H vs Q E hr h => ?_)
  · obtain ⟨a, b, xs, ys, q, A, B, rfl, _⟩ := h; rfl
  · obtain ⟨a, b, xs, ys, q, A, B, rfl, hXa, hXb, hl, ht, hne, hA, hB, hAB, hw, c⟩ := h
    refine ⟨_, (pss_cons (ps_set (i := 2) sc_quotient.nd rfl (Or.inl rfl) (pe_call (ok_divided T) (hr.mono (by decide)) (by rfl) T.m_divided T.F_divided.kp T.b_divided .nil pass0 (pa_cons (pv 0) (pa_cons (pv 1) pa_nil))))
      (pss_cons (ps_if (PW.pt (pw_or (pt_cmpR op_ne (pe_ix ix_tup (pv 2) pe_int (fun _ _ => rfl)) pe_int (nomark _)) (pw_or1 (pt_cmpR (op_neD hr.units) (pe_ix ix_tup (pv 2) pe_int (fun _ _ => rfl)) (pe_lst pa_nil) (nomark _))))) (pss_one ps_never) pss_nil)
      (pss_one (ps_ret (pe_ix ix_tup (pv 2) pe_int (fun _ _ => rfl)))))), ?_⟩
    refine N.go (σ := [some (.ref a), some (.ref b), none]) ?_
    walk_at "w"
    refine WC_divided (xs := xs) (ys := ys) A B (by walk_at "rx") (by walk_at "rx") hl ht hne hA hB hAB fun m qq r hd b1 b2 b3 ql p1 p2 p => ?_
    obtain ⟨e1, e2, e3⟩ := hd.whole ht hne hw
    subst e1 e2 e3
    walk_at "d"
    walk_at "w"
    intro z
    walk_at "w"
    exact NR.sub (c b2 p1) (by walk_at "sub")

end

section
variable {P : Program} {w : World} {K : PySem.W.Frag} {mg : Str → Option Value} {base : Heap}
def sp_shared : Sp := fun vs H Q _ => ∃ (r a b : Addr) (xs ys : List Int) (m : Int), vs = [.ref r, .ref a, .ref b, .int m] ∧ H a = some (.lst (zV xs)) ∧ H b = some (.lst (zV ys)) ∧ (xs.length ≤ 40000 ∧ ys.length ≤ 40000) ∧ 1 ≤ m ∧
  ∀ p1 p2 p, NR Q (.ref p) H [(p, .tup [.ref r, .ref p1, .ref p2, .int (m.fdiv (shBy xs ys m))]), (p2, .lst (zV (divBy ys (shBy xs ys m)))), (p1, .lst (zV (divBy xs (shBy xs ys m))))]
theorem WC_shared {H0 : Hp} {fs : Fs} {Φ : CV} {r a b : Addr} {xs ys : List Int} {m : Int} (h : Rx H0 fs a (.lst (zV xs))) (h2 : Rx H0 fs b (.lst (zV ys))) (hl : xs.length ≤ 40000 ∧ ys.length ≤ 40000) (hm : 1 ≤ m)
    (c : ∀ p1 p2 p, Φ (.ref p) ((p, .tup [.ref r, .ref p1, .ref p2, .int (m.fdiv (shBy xs ys m))]) :: (p2, .lst (zV (divBy ys (shBy xs ys m)))) :: (p1, .lst (zV (divBy xs (shBy xs ys m)))) :: fs)) : WC sp_shared [.ref r, .ref a, .ref b, .int m] H0 fs Φ :=
  fun H k Q E cc => ⟨r, a, b, xs, ys, m, rfl, h H k, h2 H k, hl, hm, fun p1 p2 p H' k' => cc _ _ _ (k.app k') (c p1 p2 p)⟩
theorem ok_shared (T : Txt P K mg base) : FnOk P w K mg base CX0 43 T.a_shared T.d_shared ["row", "ones", "others", "many"] sp_shared := by
  refine T.F_shared.ok sc_shared (fun vs H Q E h => ?_) (fun cdv A outer s H vs Q E hr h => ?_)
  · obtain ⟨r, a, b, xs, ys, m, rfl, _⟩ := h; rfl
  · obtain ⟨r, a, b, xs, ys, m, rfl, hA, hB, hl, hm, c⟩ := h
    refine ⟨_, (pss_cons (ps_set (i := 4) sc_shared.nd rfl (Or.inr rfl) (pe_call (ok_greatest T) (hr.mono (by decide)) (by rfl) T.m_greatest T.F_greatest.kp T.b_greatest .nil pass0 (pa_cons (pv 3) (pa_cons (pe_call (ok_greatest T) (hr.mono (by decide)) (by rfl) T.m_greatest T.F_greatest.kp T.b_greatest .nil pass0 (pa_cons (pe_call (ok_content T) (hr.mono (by decide)) (by rfl) T.m_content T.F_content.kp T.b_content .nil pass0 (pa_cons (pv 1) pa_nil)) (pa_cons (pe_call (ok_content T) (hr.mono (by decide)) (by rfl) T.m_content T.F_content.kp T.b_content .nil pass0 (pa_cons (pv 2) pa_nil)) pa_nil))) pa_nil))))
      (pss_one (ps_ret (pe_tup (pa_cons (pv 0) (pa_cons (pe_lc (own := [("number", 5)]) (g := gName 5) (tt := tYes) rfl sc_shared.nd (pi_list (pv 1)) (blkOk_by (own := [("number", 5)]) (N := ["row", "ones", "others", "many", "by", "number"]) (sc := defScope s_shared) (by decide +kernel)) (fun _ _ _ _ _ => pg_name (i := 5) sc_shared.nd rfl (Or.inl rfl)) (fun _ _ _ _ _ => pts_nil) (fun _ _ _ _ _ => (pe_op (op_fdivP (Big.of T.seer hr (by decide) ⟨_, _, rfl, rfl, rfl, rfl, rfl⟩) T.tree) (pv 5) (pv 4)))) (pa_cons (pe_lc (own := [("number", 5)]) (g := gName 5) (tt := tYes) rfl sc_shared.nd (pi_list (pv 2)) (blkOk_by (own := [("number", 5)]) (N := ["row", "ones", "others", "many", "by", "number"]) (sc := defScope s_shared) (by decide +kernel)) (fun _ _ _ _ _ => pg_name (i := 5) sc_shared.nd rfl (Or.inl rfl)) (fun _ _ _ _ _ => pts_nil) (fun _ _ _ _ _ => (pe_op (op_fdivP (Big.of T.seer hr (by decide) ⟨_, _, rfl, rfl, rfl, rfl, rfl⟩) T.tree) (pv 5) (pv 4)))) (pa_cons (pe_op (op_fdivP (Big.of T.seer hr (by decide) ⟨_, _, rfl, rfl, rfl, rfl, rfl⟩) T.tree) (pv 3) (pv 4)) pa_nil)))))))), ?_⟩
    refine N.go (σ := [some (.ref r), some (.ref a), some (.ref b), some (.int m), none, none]) ?_
    have hby : CDivP m (shBy xs ys m) := shBy_ne hm
    walk_at "w"
    refine WC_content (xs := xs) (by walk_at "rx") ?_
    walk_at "w"
    refine WC_content (xs := ys) (by walk_at "rx") ?_
    walk_at "w"
    refine WC_greatest ?_
    walk_at "w"
    refine WC_greatest ?_
    simp only [Int.natAbs_natCast]
    rw [show ((Nat.gcd m.natAbs (Nat.gcd (cont xs) (cont ys)) : Nat) : Int) = shBy xs ys m from rfl]
    walk_at "d"
    walk_at "w"
    refine W.lcZz (ns := xs) (fun x => x.fdiv (shBy xs ys m)) ?_
    walk_at "w"
    refine ⟨by walk_at "rl", by omega, fun _ => rfl, fun x D acc hx => ?_, fun D1 => ?_⟩
    · walk_at "d"
      have hcx : CDivP x (shBy xs ys m) := shBy_ne hm
      walk_at "w"
      exact ⟨rfl, by walk_at "sub"⟩
    walk_at "w"
    refine W.lcZz (ns := ys) (fun x => x.fdiv (shBy xs ys m)) ?_
    walk_at "w"
    refine ⟨by walk_at "rl", by omega, fun _ => rfl, fun x D acc hx => ?_, fun D2 => ?_⟩
    · walk_at "d"
      have hcx : CDivP x (shBy xs ys m) := shBy_ne hm
      walk_at "w"
      exact ⟨rfl, by walk_at "sub"⟩
    walk_at "w"
    refine ⟨by simp, fun p => ?_⟩
    exact NR.sub (c D1 D2 p) (by walk_at "sub")

end

section
variable {P : Program} {w : World} {K : PySem.W.Frag} {mg : Str → Option Value} {base : Heap}
def sp_begun : Sp := fun vs H Q _ => ∃ (r : Addr) (b : Bool) (xs : List Int), vs = [.ref r, .bl b] ∧ H r = some (.lst (zV xs)) ∧ xs.length ≤ 40000 ∧ Tr xs ∧
  ∀ p1 p2 p3 p, NR Q (.ref p) H [(p, .tup [.ref p1, .ref p2, .ref p3, .int (bgN xs)]), (p3, .lst (zV (bgU (!b) xs))), (p2, .lst (zV (bgU b xs))), (p1, .lst (zV (simp' xs)))]
theorem WC_begun {H0 : Hp} {fs : Fs} {Φ : CV} {r : Addr} {b : Bool} {xs : List Int} (h : Rx H0 fs r (.lst (zV xs))) (hl : xs.length ≤ 40000) (ht : Tr xs)
    (c : ∀ p1 p2 p3 p, Φ (.ref p) ((p, .tup [.ref p1, .ref p2, .ref p3, .int (bgN xs)]) :: (p3, .lst (zV (bgU (!b) xs))) :: (p2, .lst (zV (bgU b xs))) :: (p1, .lst (zV (simp' xs))) :: fs)) : WC sp_begun [.ref r, .bl b] H0 fs Φ :=
  fun H k Q E cc => ⟨r, b, xs, rfl, h H k, hl, ht, fun p1 p2 p3 p H' k' => cc _ _ _ (k.app k') (c p1 p2 p3 p)⟩
theorem ok_begun (T : Txt P K mg base) : FnOk P w K mg base CX0 45 T.a_begun T.d_begun ["row", "first"] sp_begun := by
  refine T.F_begun.ok sc_begun (fun vs H Q E h => ?_) (fun cdv A outer s H vs Q E hr h => ?_)
  · obtain ⟨r, b, xs, rfl, _⟩ := h; rfl
  · obtain ⟨r, b, xs, rfl, hA, hl, ht, c⟩ := h
    refine ⟨_, (pss_cons (ps_if (pt_cmpR (op_eqD hr.units) (pv 0) (pe_lst pa_nil) (nomark _)) (pss_one (ps_ret (pe_tup (pa_cons (pe_lst pa_nil) (pa_cons (pe_lst pa_nil) (pa_cons (pe_lst pa_nil) (pa_cons pe_int pa_nil))))))) pss_nil)
      (pss_cons (ps_set (i := 2) sc_begun.nd rfl (Or.inl rfl) (pe_call (ok_signed_content T) (hr.mono (by decide)) (by rfl) T.m_signed_content T.F_signed_content.kp T.b_signed_content .nil pass0 (pa_cons (pv 0) pa_nil)))
      (pss_cons (ps_set (i := 3) sc_begun.nd rfl (Or.inl rfl) (pe_lst (pa_cons (pe_op (op_fdivP (Big.of T.seer hr (by decide) ⟨_, _, rfl, rfl, rfl, rfl, rfl⟩) T.tree) (pv 2) (pe_callB cAbs (by rfl) T.z_abs (by decide +kernel) (pa_cons (pv 2) pa_nil))) pa_nil)))
      (pss_cons (ps_if (pt_val (pv 1)) (pss_one (ps_ret (pe_tup (pa_cons (pe_call (ok_simple T) (hr.mono (by decide)) (by rfl) T.m_simple T.F_simple.kp T.b_simple .nil pass0 (pa_cons (pv 0) pa_nil)) (pa_cons (pv 3) (pa_cons (pe_lst pa_nil) (pa_cons (pe_callB cAbs (by rfl) T.z_abs (by decide +kernel) (pa_cons (pv 2) pa_nil)) pa_nil))))))) pss_nil)
      (pss_one (ps_ret (pe_tup (pa_cons (pe_call (ok_simple T) (hr.mono (by decide)) (by rfl) T.m_simple T.F_simple.kp T.b_simple .nil pass0 (pa_cons (pv 0) pa_nil)) (pa_cons (pe_lst pa_nil) (pa_cons (pv 3) (pa_cons (pe_callB cAbs (by rfl) T.z_abs (by decide +kernel) (pa_cons (pv 2) pa_nil)) pa_nil))))))))))), ?_⟩
    refine N.go (σ := [some (.ref r), some (.bl b), none, none]) ?_
    walk_at "w"
    intro z
    walk_at "w"
    by_cases hne : xs = []
    · subst hne
      walk_at "w"
      intro q1
      walk_at "w"
      intro q2
      walk_at "w"
      intro q3
      walk_at "w"
      refine ⟨by simp, fun p => ?_⟩
      have hc := c q1 q2 q3 p
      unfold bgU bgN at hc
      rw [if_pos rfl, if_pos rfl, if_pos rfl] at hc
      exact NR.sub hc (by walk_at "sub")
    · rw [decide_eq_false hne]
      have hs0 := sgc_ne ht hne
      have hdv : CDivP (sgc xs) ((sgc xs).natAbs : Int) := by
        show ((sgc xs).natAbs : Int) ≠ 0
        omega
      walk_at "w"
      refine WC_signed_content (xs := xs) (by walk_at "rx") ?_
      walk_at "d"
      walk_at "w"
      rw [sgn_fdiv hs0]
      intro sgp
      rw [show (if sgc xs < 0 then (-1 : Int) else 1) = sgnc xs from rfl]
      walk_at "d"
      have en : ((sgc xs).natAbs : Int) = bgN xs := by unfold bgN; rw [if_neg hne, sgc_abs]
      have eu1 : bgU true xs = [sgnc xs] := by unfold bgU; rw [if_neg hne, if_pos rfl]
      have eu2 : bgU false xs = [] := by unfold bgU; rw [if_neg hne, if_neg (by decide)]
      cases b with
      | true =>
        walk_at "w"
        refine WC_simple (xs := xs) (by walk_at "rx") (by omega) ht fun q1 => ?_
        walk_at "w"
        intro q3
        walk_at "w"
        refine ⟨by simp, fun p => ?_⟩
        have hc := c q1 sgp q3 p
        rw [show (!true) = false from rfl, eu1, eu2, ← en] at hc
        have hc2 : NR Q (.ref p) H [(p, .tup [.ref q1, .ref sgp, .ref q3, .int ((sgc xs).natAbs : Int)]), (q3, .lst (zV [])), (q1, .lst (zV (simp' xs))), (sgp, .lst (zV [sgnc xs]))] := NR.perm (.cons _ (.cons _ (.swap _ _ _))) hc
        exact NR.sub hc2 (by walk_at "sub")
      | false =>
        walk_at "w"
        refine WC_simple (xs := xs) (by walk_at "rx") (by omega) ht fun q1 => ?_
        walk_at "w"
        intro q3
        walk_at "w"
        refine ⟨by simp, fun p => ?_⟩
        have hc := c q1 q3 sgp p
        rw [show (!false) = true from rfl, eu1, eu2, ← en] at hc
        have hc2 : NR Q (.ref p) H [(p, .tup [.ref q1, .ref q3, .ref sgp, .int ((sgc xs).natAbs : Int)]), (q3, .lst (zV [])), (q1, .lst (zV (simp' xs))), (sgp, .lst (zV [sgnc xs]))] := by
          refine NR.perm (.cons _ ?_) hc
          exact .trans (.cons _ (.swap _ _ _)) (.swap _ _ _)
        exact NR.sub hc2 (by walk_at "sub")

end

section
variable {P : Program} {w : World} {K : PySem.W.Frag} {mg : Str → Option Value} {base : Heap}
def sp_behind : Sp := fun vs H Q _ => ∃ (ph pt a1 a2 a3 b1 b2 b3 : Addr) (x u v x2 u2 v2 : List Int) (n n2 : Int) (A1 A2 c1 c2 d1 d2 : Nat), vs = [.ref ph, .ref pt] ∧
  H ph = some (.tup [.ref a1, .ref a2, .ref a3, .int n]) ∧ H a1 = some (.lst (zV x)) ∧ H a2 = some (.lst (zV u)) ∧ H a3 = some (.lst (zV v)) ∧
  H pt = some (.tup [.ref b1, .ref b2, .ref b3, .int n2]) ∧ H b1 = some (.lst (zV x2)) ∧ H b2 = some (.lst (zV u2)) ∧ H b3 = some (.lst (zV v2)) ∧
  BhB x.length x2.length A1 A2 c1 c2 d1 d2 ∧ (u.length ≤ 9000 ∧ v.length ≤ 9000 ∧ u2.length ≤ 9000 ∧ v2.length ≤ 9000) ∧ Tr x2 ∧ x2 ≠ [] ∧ (1 ≤ n ∧ 1 ≤ n2) ∧
  (BdL A1 x ∧ BdL A2 x2 ∧ BdL c1 u ∧ BdL c1 v ∧ BdL c2 u2 ∧ BdL c2 v2 ∧ Bd d1 n ∧ Bd d2 n2) ∧
  ∀ (m : Int) (q r x' u' v' : List Int) (n' : Int), Dv x x2 m q r → Bd ((x.length + 1 - x2.length) * A2 + 1) m → BdL (A1 + (x.length + 1 - x2.length) * (A2 + 1)) q → BdL (A1 + (x.length + 1 - x2.length) * (A2 + 1)) r → q.length ≤ x.length + 1 - x2.length →
    Bh x u v x2 u2 v2 n n2 m q r x' u' v' n' → ∀ p1 p2 p3 p, NR Q (.ref p) H [(p, .tup [.ref p1, .ref p2, .ref p3, .int n']), (p3, .lst (zV v')), (p2, .lst (zV u')), (p1, .lst (zV x'))]
theorem WC_behind {H0 : Hp} {fs : Fs} {Φ : CV} {ph pt a1 a2 a3 b1 b2 b3 : Addr} {x u v x2 u2 v2 : List Int} {n n2 : Int} (A1 A2 c1 c2 d1 d2 : Nat)
    (hph : Rx H0 fs ph (.tup [.ref a1, .ref a2, .ref a3, .int n])) (ha1 : Rx H0 fs a1 (.lst (zV x))) (ha2 : Rx H0 fs a2 (.lst (zV u))) (ha3 : Rx H0 fs a3 (.lst (zV v)))
    (hpt : Rx H0 fs pt (.tup [.ref b1, .ref b2, .ref b3, .int n2])) (hb1 : Rx H0 fs b1 (.lst (zV x2))) (hb2 : Rx H0 fs b2 (.lst (zV u2))) (hb3 : Rx H0 fs b3 (.lst (zV v2)))
    (hB : BhB x.length x2.length A1 A2 c1 c2 d1 d2) (hl : u.length ≤ 9000 ∧ v.length ≤ 9000 ∧ u2.length ≤ 9000 ∧ v2.length ≤ 9000) (ht : Tr x2) (hne : x2 ≠ []) (hn : 1 ≤ n ∧ 1 ≤ n2)
    (hb : BdL A1 x ∧ BdL A2 x2 ∧ BdL c1 u ∧ BdL c1 v ∧ BdL c2 u2 ∧ BdL c2 v2 ∧ Bd d1 n ∧ Bd d2 n2)
    (c : ∀ (m : Int) (q r x' u' v' : List Int) (n' : Int), Dv x x2 m q r → Bd ((x.length + 1 - x2.length) * A2 + 1) m → BdL (nA x.length x2.length A1 A2) q → BdL (nA x.length x2.length A1 A2) r → q.length ≤ x.length + 1 - x2.length →
      Bh x u v x2 u2 v2 n n2 m q r x' u' v' n' → ∀ p1 p2 p3 p, Φ (.ref p) ((p, .tup [.ref p1, .ref p2, .ref p3, .int n']) :: (p3, .lst (zV v')) :: (p2, .lst (zV u')) :: (p1, .lst (zV x')) :: fs)) : WC sp_behind [.ref ph, .ref pt] H0 fs Φ :=
  fun H k Q E cc => ⟨ph, pt, a1, a2, a3, b1, b2, b3, x, u, v, x2, u2, v2, n, n2, A1, A2, c1, c2, d1, d2, rfl, hph H k, ha1 H k, ha2 H k, ha3 H k, hpt H k, hb1 H k, hb2 H k, hb3 H k, hB, hl, ht, hne, hn, hb,
    fun m q r x' u' v' n' e1 e2 e3 e4 e5 e6 p1 p2 p3 p H' k' => cc _ _ _ (k.app k') (c m q r x' u' v' n' e1 e2 e3 e4 e5 e6 p1 p2 p3 p)⟩
theorem ok_behind (T : Txt P K mg base) : FnOk P w K mg base CX0 45 T.a_behind T.d_behind ["here", "there"] sp_behind := by
  refine T.F_behind.ok sc_behind (fun vs H Q E h => ?_) (fun cdv A outer s H vs Q E hr h => ?_)
  · obtain ⟨ph, pt, a1, a2, a3, b1, b2, b3, x, u, v, x2, u2, v2, n, n2, A1, A2, c1, c2, d1, d2, rfl, _⟩ := h; rfl
  · obtain ⟨ph, pt, a1, a2, a3, b1, b2, b3, x, u, v, x2, u2, v2, n, n2, A1, A2, c1, c2, d1, d2, rfl, hph, ha1, ha2, ha3, hpt, hb1, hb2, hb3, hB, hl, ht, hne, hn, hb, c⟩ := h
    obtain ⟨hx, hx2, hu, hv, hu2, hv2, hdn, hdn2⟩ := hb
    obtain ⟨hL, B1, B2, B3, B4⟩ := hB
    refine ⟨_, (pss_cons (ps_set (i := 2) sc_behind.nd rfl (Or.inl rfl) (pe_call (ok_divided T) (hr.mono (by decide)) (by rfl) T.m_divided T.F_divided.kp T.b_divided .nil pass0 (pa_cons (pe_ix ix_tup (pv 0) pe_int (fun _ _ => rfl)) (pa_cons (pe_ix ix_tup (pv 1) pe_int (fun _ _ => rfl)) pa_nil))))
      (pss_cons (ps_set (i := 3) sc_behind.nd rfl (Or.inl rfl) (pe_ix ix_tup (pv 2) pe_int (fun _ _ => rfl)))
      (pss_cons (ps_if (pt_cmpR (op_eqD hr.units) (pv 3) (pe_lst pa_nil) (nomark _)) (pss_one (ps_ret (pe_tup (pa_cons (pe_lst pa_nil) (pa_cons (pe_lst pa_nil) (pa_cons (pe_lst pa_nil) (pa_cons pe_int pa_nil))))))) pss_nil)
      (pss_cons (ps_set (i := 4) sc_behind.nd rfl (Or.inl rfl) (pe_call (ok_signed_content T) (hr.mono (by decide)) (by rfl) T.m_signed_content T.F_signed_content.kp T.b_signed_content .nil pass0 (pa_cons (pv 3) pa_nil)))
      (pss_cons (ps_set (i := 5) sc_behind.nd rfl (Or.inl rfl) (pe_op (op_fdivP (Big.of T.seer hr (by decide) ⟨_, _, rfl, rfl, rfl, rfl, rfl⟩) T.tree) (pv 4) (pe_callB cAbs (by rfl) T.z_abs (by decide +kernel) (pa_cons (pv 4) pa_nil))))
      (pss_cons (ps_set (i := 6) sc_behind.nd rfl (Or.inl rfl) (pe_op op_mulG (pe_op op_mulG (pv 5) (pe_ix ix_tup (pv 2) pe_int (fun _ _ => rfl))) (pe_ix ix_tup (pv 1) pe_int (fun _ _ => rfl))))
      (pss_cons (ps_set (i := 7) sc_behind.nd rfl (Or.inl rfl) (pe_call (ok_scaled T) (hr.mono (by decide)) (by rfl) T.m_scaled T.F_scaled.kp T.b_scaled .nil pass0 (pa_cons (pe_ix ix_tup (pv 2) pe_int (fun _ _ => rfl)) (pa_cons (pe_op op_mulG (pv 5) (pe_ix ix_tup (pv 0) pe_int (fun _ _ => rfl))) pa_nil))))
      (pss_cons (ps_set (i := 8) sc_behind.nd rfl (Or.inl rfl) (pe_call (ok_minus T) (hr.mono (by decide)) (by rfl) T.m_minus T.F_minus.kp T.b_minus .nil pass0 (pa_cons (pe_call (ok_scaled T) (hr.mono (by decide)) (by rfl) T.m_scaled T.F_scaled.kp T.b_scaled .nil pass0 (pa_cons (pe_ix ix_tup (pv 0) pe_int (fun _ _ => rfl)) (pa_cons (pv 6) pa_nil))) (pa_cons (pe_call (ok_times T) (hr.mono (by decide)) (by rfl) T.m_times T.F_times.kp T.b_times .nil pass0 (pa_cons (pv 7) (pa_cons (pe_ix ix_tup (pv 1) pe_int (fun _ _ => rfl)) pa_nil))) pa_nil))))
      (pss_cons (ps_set (i := 9) sc_behind.nd rfl (Or.inl rfl) (pe_call (ok_minus T) (hr.mono (by decide)) (by rfl) T.m_minus T.F_minus.kp T.b_minus .nil pass0 (pa_cons (pe_call (ok_scaled T) (hr.mono (by decide)) (by rfl) T.m_scaled T.F_scaled.kp T.b_scaled .nil pass0 (pa_cons (pe_ix ix_tup (pv 0) pe_int (fun _ _ => rfl)) (pa_cons (pv 6) pa_nil))) (pa_cons (pe_call (ok_times T) (hr.mono (by decide)) (by rfl) T.m_times T.F_times.kp T.b_times .nil pass0 (pa_cons (pv 7) (pa_cons (pe_ix ix_tup (pv 1) pe_int (fun _ _ => rfl)) pa_nil))) pa_nil))))
      (pss_one (ps_ret (pe_call (ok_shared T) (hr.mono (by decide)) (by rfl) T.m_shared T.F_shared.kp T.b_shared .nil pass0 (pa_cons (pe_call (ok_simple T) (hr.mono (by decide)) (by rfl) T.m_simple T.F_simple.kp T.b_simple .nil pass0 (pa_cons (pv 3) pa_nil)) (pa_cons (pv 8) (pa_cons (pv 9) (pa_cons (pe_op op_mulG (pe_op op_mulG (pe_ix ix_tup (pv 0) pe_int (fun _ _ => rfl)) (pe_ix ix_tup (pv 1) pe_int (fun _ _ => rfl))) (pe_callB cAbs (by rfl) T.z_abs (by decide +kernel) (pa_cons (pv 4) pa_nil))) pa_nil)))))))))))))))), ?_⟩
    refine N.go (σ := [some (.ref ph), some (.ref pt), none, none, none, none, none, none, none, none]) ?_
    walk_at "w"
    refine WC_divided (xs := x) (ys := x2) A1 A2 (by walk_at "rx") (by walk_at "rx") ⟨by omega, by omega⟩ ht hne hx hx2 B1 fun m q r hd k1 k2 k3 k4 p1 p2 p => ?_
    have hc := c m q r
    walk_at "d"
    walk_at "w"
    walk_at "d"
    walk_at "w"
    intro z
    walk_at "w"
    by_cases hr0 : r = []
    · rw [decide_eq_true hr0]
      walk_at "w"
      intro q1
      walk_at "w"
      intro q2
      walk_at "w"
      intro q3
      walk_at "w"
      refine ⟨by simp, fun pp => ?_⟩
      exact NR.sub (hc [] [] [] 1 hd k1 k2 k3 k4 (.inl ⟨hr0, rfl, rfl, rfl, rfl⟩) q1 q2 q3 pp) (by walk_at "sub")
    · rw [decide_eq_false hr0]
      walk_at "w"
      have hs0 := sgc_ne hd.rt hr0
      have hdv : CDivP (sgc r) ((sgc r).natAbs : Int) := by
        show ((sgc r).natAbs : Int) ≠ 0
        omega
      refine WC_signed_content (xs := r) (by walk_at "rx") ?_
      walk_at "d"
      walk_at "w"
      rw [sgn_fdiv hs0, show (if sgc r < 0 then (-1 : Int) else 1) = sgnr r from rfl]
      walk_at "d"
      have hsb : Bd 1 (sgnr r) := by unfold sgnr; split <;> (unfold Bd; decide)
      have bm : Bd ((x.length + 1 - x2.length) * A2 + 1) (sgnr r * m) := k1.sgnr r
      have bup : Bd ((x.length + 1 - x2.length) * A2 + 1 + d2) (sgnr r * m * n2) := bm.mul hdn2
      have bsn : Bd d1 (sgnr r * n) := hdn.sgnr r
      have nl : (x.length + 1 - x2.length) * A2 ≤ (x.length + 2 - x2.length) * (A2 + 1) := Nat.mul_le_mul (by omega) (by omega)
      have m1 : IntMulOk (sgnr r) m := mulL (by unfold sgnr; split <;> omega) (by unfold sgnr; split <;> omega)
      have m2 : IntMulOk (sgnr r * m) n2 := mulB bm hdn2 (by omega)
      have m3 : IntMulOk (sgnr r) n := mulL (by unfold sgnr; split <;> omega) (by unfold sgnr; split <;> omega)
      have m4 : IntMulOk n n2 := mulB hdn hdn2 (by omega)
      have bcr : Bd (A1 + (x.length + 1 - x2.length) * (A2 + 1)) (cont r : Int) := by
        have := cont_bd k3
        show ((cont r : Int)).natAbs < _
        rw [Int.natAbs_natCast]
        exact this
      have m5 : IntMulOk (n * n2) (cont r : Int) := mulB (hdn.mul hdn2) bcr (by omega)
      walk_at "w"
      walk_at "d"
      walk_at "w"
      refine WC_scaled (xs := q) (m := sgnr r * n) (A1 + (x.length + 1 - x2.length) * (A2 + 1)) d1 (by walk_at "rx") (by omega) k2 bsn (by omega) fun pd => ?_
      walk_at "d"
      walk_at "w"
      have ql := scaled_len q (sgnr r * n)
      have qb : BdL (A1 + (x.length + 1 - x2.length) * (A2 + 1) + d1) (scaled q (sgnr r * n)) := (scaled_bd k2 bsn).mono (by omega)
      refine WC_scaled (xs := u) (m := sgnr r * m * n2) c1 ((x.length + 1 - x2.length) * A2 + 1 + d2) (by walk_at "rx") (by omega) hu bup (by omega) fun pe => ?_
      walk_at "w"
      refine WC_times (xs := scaled q (sgnr r * n)) (ys := u2) (A1 + (x.length + 1 - x2.length) * (A2 + 1) + d1) c2 (by walk_at "rx") (by walk_at "rx") ⟨by omega, by omega⟩ qb hu2 (by omega) fun pf => ?_
      walk_at "w"
      have l1 := scaled_len u (sgnr r * m * n2)
      have l2 := tm_len (scaled q (sgnr r * n)) u2
      refine WC_minus (xs := scaled u (sgnr r * m * n2)) (ys := tm (scaled q (sgnr r * n)) u2) (by walk_at "rx") (by walk_at "rx") ⟨by omega, by omega⟩ fun pg => ?_
      walk_at "d"
      walk_at "w"
      refine WC_scaled (xs := v) (m := sgnr r * m * n2) c1 ((x.length + 1 - x2.length) * A2 + 1 + d2) (by walk_at "rx") (by omega) hv bup (by omega) fun pe2 => ?_
      walk_at "w"
      refine WC_times (xs := scaled q (sgnr r * n)) (ys := v2) (A1 + (x.length + 1 - x2.length) * (A2 + 1) + d1) c2 (by walk_at "rx") (by walk_at "rx") ⟨by omega, by omega⟩ qb hv2 (by omega) fun pf2 => ?_
      walk_at "w"
      have l3 := scaled_len v (sgnr r * m * n2)
      have l4 := tm_len (scaled q (sgnr r * n)) v2
      refine WC_minus (xs := scaled v (sgnr r * m * n2)) (ys := tm (scaled q (sgnr r * n)) v2) (by walk_at "rx") (by walk_at "rx") ⟨by omega, by omega⟩ fun pg2 => ?_
      have l5 := minus_len (scaled u (sgnr r * m * n2)) (tm (scaled q (sgnr r * n)) u2)
      have l6 := minus_len (scaled v (sgnr r * m * n2)) (tm (scaled q (sgnr r * n)) v2)
      walk_at "d"
      walk_at "w"
      refine WC_simple (xs := r) (by walk_at "rx") (by have := hd.rl; omega) hd.rt fun ps => ?_
      walk_at "w"
      rw [sgc_abs]
      walk_at "w"
      have hN : 1 ≤ n * n2 * (cont r : Int) := by
        have hcp := cont_pos hd.rt hr0
        have a4 : 0 < n * n2 := Int.mul_pos (by omega) (by omega)
        have := Int.mul_pos a4 (show (0 : Int) < (cont r : Int) by omega)
        omega
      refine WC_shared (by walk_at "rx") (by walk_at "rx") ⟨by omega, by omega⟩ hN fun p1 p2 p => ?_
      walk_at "w"
      refine NR.sub (hc _ _ _ _ hd k1 k2 k3 k4 (.inr ⟨hr0, _, _, _, rfl, rfl, rfl, rfl, rfl, rfl, rfl⟩) ps p1 p2 p) (by walk_at "sub")

end

section
variable {P : Program} {w : World} {K : PySem.W.Frag} {mg : Str → Option Value} {base : Heap}
def sp_meet : Sp := fun vs H Q _ => ∃ (a b : Addr) (xs ys : List Int) (A B : Nat) (E : Nat → Nat → Nat → Nat → Prop), vs = [.ref a, .ref b] ∧ H a = some (.lst (zV xs)) ∧ H b = some (.lst (zV ys)) ∧ (xs.length ≤ 40 ∧ ys.length ≤ 40) ∧ Tr xs ∧ Tr ys ∧ (xs ≠ [] ∨ ys ≠ []) ∧ (BdL A xs ∧ BdL B ys ∧ 1 ≤ A ∧ 1 ≤ B) ∧
  (ys ≠ [] → Go E xs.length ys.length A B 1 1 A B) ∧ (ys = [] → E xs.length A 1 A) ∧ MtQ E xs ys A B ∧
  ∀ (x s t u v : List Int) (n : Int) (a c d : Nat), Mt xs ys x s t u v n → E x.length a c d → BdL a x → BdL c u → BdL c v → Bd d n → MtB A B xs ys x s t → (x.length ≤ 40 ∧ u.length ≤ 2000 ∧ v.length ≤ 2000) →
    ∀ p1 p2 p3 p4 p5 p, NR Q (.ref p) H [(p, .tup [.ref p1, .ref p2, .ref p3, .ref p4, .ref p5, .int n]), (p5, .lst (zV v)), (p4, .lst (zV u)), (p3, .lst (zV t)), (p2, .lst (zV s)), (p1, .lst (zV x))]
theorem WC_meet {H0 : Hp} {fs : Fs} {Φ : CV} {a b : Addr} {xs ys : List Int} (A B : Nat) (E : Nat → Nat → Nat → Nat → Prop) (ha : Rx H0 fs a (.lst (zV xs))) (hb : Rx H0 fs b (.lst (zV ys))) (hl : xs.length ≤ 40 ∧ ys.length ≤ 40) (h1 : Tr xs) (h2 : Tr ys) (hne : xs ≠ [] ∨ ys ≠ []) (hbd : BdL A xs ∧ BdL B ys ∧ 1 ≤ A ∧ 1 ≤ B)
    (hgo : ys ≠ [] → Go E xs.length ys.length A B 1 1 A B) (hend : ys = [] → E xs.length A 1 A) (hq : MtQ E xs ys A B)
    (c : ∀ (x s t u v : List Int) (n : Int) (a c d : Nat), Mt xs ys x s t u v n → E x.length a c d → BdL a x → BdL c u → BdL c v → Bd d n → MtB A B xs ys x s t → (x.length ≤ 40 ∧ u.length ≤ 2000 ∧ v.length ≤ 2000) →
      ∀ p1 p2 p3 p4 p5 p, Φ (.ref p) ((p, .tup [.ref p1, .ref p2, .ref p3, .ref p4, .ref p5, .int n]) :: (p5, .lst (zV v)) :: (p4, .lst (zV u)) :: (p3, .lst (zV t)) :: (p2, .lst (zV s)) :: (p1, .lst (zV x)) :: fs)) : WC sp_meet [.ref a, .ref b] H0 fs Φ :=
  fun H k Q _ cc => ⟨a, b, xs, ys, A, B, E, rfl, ha H k, hb H k, hl, h1, h2, hne, hbd, hgo, hend, hq,
    fun x s t u v n a c d e1 e2 e3 e4 e5 e6 e7 e8 p1 p2 p3 p4 p5 p H' k' => cc _ _ _ (k.app k') (by
      rename_i cx _
      exact cx x s t u v n a c d e1 e2 e3 e4 e5 e6 e7 e8 p1 p2 p3 p4 p5 p)⟩
theorem ok_meet (T : Txt P K mg base) : FnOk P w K mg base CX0 46 T.a_meet T.d_meet ["ones", "others"] sp_meet := by
  refine T.F_meet.ok sc_meet (fun vs H Q E h => ?_) (fun cdv A outer s H vs Q E hr h => ?_)
  · obtain ⟨a, b, xs, ys, A, B, E, rfl, _⟩ := h; rfl
  · obtain ⟨a, b, xs, ys, A, B, E, rfl, ha, hb, hl, htx, hty, hne, hbd, hgo, hend, hq, c⟩ := h
    obtain ⟨hA, hB, hA1, hB1⟩ := hbd
    refine ⟨_, (pss_cut (ps_if (PW.pt (pw_and (pt_cmpR (op_eqD hr.units) (pv 0) (pe_lst pa_nil) (nomark _)) (pw_and1 (pt_cmpR (op_eqD hr.units) (pv 1) (pe_lst pa_nil) (nomark _))))) (pss_one ps_never) pss_nil)
      (pss_cons (ps_set (i := 2) sc_meet.nd rfl (Or.inl rfl) (pe_call (ok_begun T) (hr.mono (by decide)) (by rfl) T.m_begun T.F_begun.kp T.b_begun .nil pass0 (pa_cons (pv 0) (pa_cons pe_bl pa_nil))))
      (pss_cons (ps_set (i := 3) sc_meet.nd rfl (Or.inl rfl) (pe_call (ok_begun T) (hr.mono (by decide)) (by rfl) T.m_begun T.F_begun.kp T.b_begun .nil pass0 (pa_cons (pv 1) (pa_cons pe_bl pa_nil))))
      (pss_cons (ps_while PassesOwn.never (pt_cmpR (op_neD hr.units) (pe_ix ix_tup (pv 3) pe_int (fun _ _ => rfl)) (pe_lst pa_nil) (nomark _)) (pss_cons (ps_set (i := 4) sc_meet.nd rfl (Or.inl rfl) (pe_call (ok_behind T) (hr.mono (by decide)) (by rfl) T.m_behind T.F_behind.kp T.b_behind .nil pass0 (pa_cons (pv 2) (pa_cons (pv 3) pa_nil))))
      (pss_cons (ps_set (i := 2) sc_meet.nd rfl (Or.inl rfl) (pv 3))
      (pss_one (ps_set (i := 3) sc_meet.nd rfl (Or.inl rfl) (pv 4))))))
      (pss_cons (ps_set (i := 5) sc_meet.nd rfl (Or.inl rfl) (pe_callTy cListOf (by rfl) T.z_list (by decide +kernel) (pa_cons (pe_ix ix_tup (pv 2) pe_int (fun _ _ => rfl)) pa_nil)))
      (pss_one (ps_ret (pe_tup (pa_cons (pv 5) (pa_cons (pe_call (ok_quotient T) (hr.mono (by decide)) (by rfl) T.m_quotient T.F_quotient.kp T.b_quotient .nil pass0 (pa_cons (pv 0) (pa_cons (pv 5) pa_nil))) (pa_cons (pe_call (ok_quotient T) (hr.mono (by decide)) (by rfl) T.m_quotient T.F_quotient.kp T.b_quotient .nil pass0 (pa_cons (pv 1) (pa_cons (pv 5) pa_nil))) (pa_cons (pe_callTy cListOf (by rfl) T.z_list (by decide +kernel) (pa_cons (pe_ix ix_tup (pv 2) pe_int (fun _ _ => rfl)) pa_nil)) (pa_cons (pe_callTy cListOf (by rfl) T.z_list (by decide +kernel) (pa_cons (pe_ix ix_tup (pv 2) pe_int (fun _ _ => rfl)) pa_nil)) (pa_cons (pe_ix ix_tup (pv 2) pe_int (fun _ _ => rfl)) pa_nil)))))))))))))), ?_⟩
    refine N.go (σ := [some (.ref a), some (.ref b), none, none, none, none]) ?_

    refine S.cut (fun σ f => σ = [some (.ref a), some (.ref b), none, none, none, none] ∧ f = []) ?_ ?_
    · walk_at "w"
      intro z1
      walk_at "w"
      by_cases hx : xs = []
      · rw [decide_eq_true hx]
        walk_at "w"
        intro z2
        walk_at "w"
        rw [decide_eq_false (hne.resolve_left fun h => h hx)]
        walk_at "w"
        refine Un.sub [] (by walk_at "sub") ⟨rfl, rfl⟩
      · rw [decide_eq_false hx]
        walk_at "w"
        refine Un.sub [] (by walk_at "sub") ⟨rfl, rfl⟩
    rintro σ f ⟨rfl, rfl⟩
    walk_at "w"
    refine WC_begun (xs := xs) (by walk_at "rx") (by omega) htx fun g1 g2 g3 g => ?_
    walk_at "d"
    walk_at "w"
    refine WC_begun (xs := ys) (by walk_at "rx") (by omega) hty fun e1 e2 e3 e => ?_
    walk_at "d"
    walk_at "w"
    refine S.while_ (fun k σ f => ∃ ph pt a1 a2 a3 b1 b2 b3 x u v x2 u2 v2 n n2 A1 A2 c1 c2 d1 d2 rv, k = x2.length ∧ σ = [some (.ref a), some (.ref b), some (.ref ph), some (.ref pt), rv, none] ∧
      f = [(pt, .tup [.ref b1, .ref b2, .ref b3, .int n2]), (b3, .lst (zV v2)), (b2, .lst (zV u2)), (b1, .lst (zV x2)), (ph, .tup [.ref a1, .ref a2, .ref a3, .int n]), (a3, .lst (zV v)), (a2, .lst (zV u)), (a1, .lst (zV x))] ∧
      Cb xs ys x u v n ∧ Cb xs ys x2 u2 v2 n2 ∧ Sh xs ys x x2 ∧ (BdL A1 x ∧ BdL A2 x2 ∧ BdL c1 u ∧ BdL c1 v ∧ BdL c2 u2 ∧ BdL c2 v2 ∧ Bd d1 n ∧ Bd d2 n2) ∧
      (x2 ≠ [] → Go E x.length x2.length A1 A2 c1 c2 d1 d2) ∧ (x2 = [] → E x.length A1 c1 d1 ∧ x ≠ []) ∧
      (∃ K, K + 41 * x2.length ≤ 1700 ∧ u.length ≤ K ∧ v.length ≤ K ∧ u2.length ≤ K ∧ v2.length ≤ K) ∧ (x.length ≤ 40 ∧ x2.length ≤ 40)) (simp' ys).length ?_ ?_
    · refine ⟨g, e, g1, g2, g3, e1, e2, e3, simp' xs, bgU true xs, bgU false xs, simp' ys, bgU false ys, bgU true ys, bgN xs, bgN ys, A, B, 1, 1, A, B, none, rfl, rfl, rfl, Cb.begunL ys htx, Cb.begunR xs hty, Sh.start htx hty,
        ⟨simp_bd htx hA, simp_bd hty hB, bgU_bd _ _, bgU_bd _ _, bgU_bd _ _, bgU_bd _ _, bgN_bd hA1 hA, bgN_bd hB1 hB⟩, fun h => ?_, fun h => ?_, ⟨1, ?_, bgU_len _ _, bgU_len _ _, bgU_len _ _, bgU_len _ _⟩, ?_⟩
      · rw [simp_len, simp_len]
        exact hgo fun h0 => h (by rw [h0]; rfl)
      · have h0 : ys = [] := List.length_eq_zero_iff.mp (by rw [← simp_len, h]; rfl)
        rw [simp_len]
        exact ⟨hend h0, simp_ne (hne.resolve_right fun h1 => h1 h0)⟩
      · rw [simp_len]; omega
      · rw [simp_len, simp_len]; omega
    rintro k σ f ⟨ph, pt, a1, a2, a3, b1, b2, b3, x, u, v, x2, u2, v2, n, n2, A1, A2, c1, c2, d1, d2, rv, rfl, rfl, rfl, hc1, hc2, hsh, hbb, hg, hen, ⟨KK, hK, hku, hkv, hku2, hkv2⟩, hlx⟩
    walk_at "w"
    intro z
    walk_at "w"
    by_cases hx2 : x2 = []
    · rw [decide_eq_true hx2]
      walk_at "w"
      subst hx2
      obtain ⟨hE, hxn⟩ := hen rfl
      obtain ⟨hb1, _, hb3, hb4, _, _, hb5, _⟩ := hbb
      obtain ⟨hct, hla⟩ := hc1.sm hxn
      obtain ⟨pd1, pd2⟩ := hsh.end' hct
      obtain ⟨s', hs⟩ := pd1.whole
      obtain ⟨t', ht⟩ := pd2.whole
      obtain ⟨a', ba', q1, q2⟩ := hq _ _ _ _ x hE rfl hb1 hc1.xt hxn hct hla pd1 pd2
      intro pf
      walk_at "d"
      walk_at "w"
      refine WC_quotient (xs := xs) (ys := x) s' A a' (by walk_at "rx") (by walk_at "rx") ⟨by omega, by omega⟩ hc1.xt hxn hA ba' q1 hs fun bs ps => ?_
      walk_at "w"
      refine WC_quotient (xs := ys) (ys := x) t' B a' (by walk_at "rx") (by walk_at "rx") ⟨by omega, by omega⟩ hc1.xt hxn hB ba' q2 ht fun bt pt' => ?_
      walk_at "w"
      intro pu
      walk_at "w"
      intro pv
      walk_at "w"
      refine ⟨by simp, fun p => ?_⟩
      exact NR.sub (c x s' t' u v n _ _ _ ⟨hc1, hxn, hs, ht⟩ hE hb1 hb3 hb4 hb5 ⟨a', ba', q1, q2, bs, bt⟩ ⟨hlx.1, by omega, by omega⟩ pf ps pt' pu pv p) (by walk_at "sub")
    · rw [decide_eq_false hx2]
      have hgo' := hg hx2
      obtain ⟨hBh, hE2, hnext⟩ := hgo'
      walk_at "w"
      refine WC_behind (x := x) (u := u) (v := v) (x2 := x2) (u2 := u2) (v2 := v2) A1 A2 c1 c2 d1 d2 (by walk_at "rx") (by walk_at "rx") (by walk_at "rx") (by walk_at "rx") (by walk_at "rx") (by walk_at "rx") (by walk_at "rx") (by walk_at "rx") hBh ⟨by omega, by omega, by omega, by omega⟩ hc2.xt hx2 ⟨hc1.n1, hc2.n1⟩ hbb
        fun m q r x' u' v' n' k1 k2 k3 k4 k5 k6 p1 p2 p3 p => ?_
      walk_at "d"
      walk_at "w"
      walk_at "d"
      walk_at "w"
      walk_at "d"
      walk_at "w"
      walk_at "d"
      have hrl := k1.rl
      have hx2l : 0 < x2.length := List.length_pos_iff.mpr hx2
      have hcb := k6.cb hc1 hc2 k1
      have hsh' := k6.sh hsh k1
      obtain ⟨hb1, hb2, hb3, hb4, hb5, hb6, hb7, hb8⟩ := hbb
      by_cases hr0 : r = []
      · obtain ⟨_, rfl, rfl, rfl, rfl⟩ | ⟨h1, _⟩ := k6
        · refine Wl.sub [(p, .tup [.ref p1, .ref p2, .ref p3, .int 1]), (p3, .lst (zV [])), (p2, .lst (zV [])), (p1, .lst (zV [])), (pt, .tup [.ref b1, .ref b2, .ref b3, .int n2]), (b3, .lst (zV v2)), (b2, .lst (zV u2)), (b1, .lst (zV x2))] (by walk_at "sub") (m' := 0) hx2l ?_
          exact ⟨pt, p, b1, b2, b3, p1, p2, p3, x2, u2, v2, [], [], [], n2, 1, A2, 0, c2, 0, d2, 1, _, rfl, rfl, rfl, hc2, hcb, hsh', ⟨hb2, BdL.nil, hb5, hb6, BdL.nil, BdL.nil, hb8, by unfold Bd; decide⟩, fun h => absurd rfl h, fun _ => ⟨hE2, hx2⟩, ⟨KK, by simp only [List.length_nil]; omega, hku2, hkv2, Nat.zero_le _, Nat.zero_le _⟩, ⟨hlx.2, by simp⟩⟩
        · exact absurd hr0 h1
      · obtain ⟨ex, n1, n2', n3, n4, n5⟩ := k6.bd (A1 := A1) (A2 := A2) (c1 := c1) (c2 := c2) (d1 := d1) (d2 := d2) (K := KK) hr0 k1 ⟨hc1.n1, hc2.n1⟩ ⟨hlx.1, hlx.2, hx2⟩ k5 ⟨hku, hkv, hku2, hkv2⟩ ⟨hb3, hb4, hb5, hb6, hb7, hb8⟩ k2 k3 k4
        have hxl : x'.length = r.length := by rw [ex, simp_len]
        refine Wl.sub [(p, .tup [.ref p1, .ref p2, .ref p3, .int n']), (p3, .lst (zV v')), (p2, .lst (zV u')), (p1, .lst (zV x')), (pt, .tup [.ref b1, .ref b2, .ref b3, .int n2]), (b3, .lst (zV v2)), (b2, .lst (zV u2)), (b1, .lst (zV x2))] (by walk_at "sub") (m' := x'.length) (by omega) ?_
        refine ⟨pt, p, b1, b2, b3, p1, p2, p3, x2, u2, v2, x', u', v', _, _, A2, _, c2, _, d2, _, _, rfl, rfl, rfl, hc2, hcb, hsh', ⟨hb2, n1, hb5, hb6, n2', n3, hb8, n4⟩, fun h => ?_, fun h => ?_, ⟨KK + 40, by omega, by omega, by omega, n5.1, n5.2⟩, ⟨hlx.2, by omega⟩⟩
        · exact hnext _ (List.length_pos_iff.mpr h) (by omega)
        · exact absurd h (by rw [ex]; exact simp_ne hr0)

end

section
variable {P : Program} {w : World} {K : PySem.W.Frag} {mg : Str → Option Value} {base : Heap}
/-- two noughts -/
def sp_meetX (C : Addr) : Sp := fun vs H Q E => ∃ (a b : Addr), vs = [.ref a, .ref b] ∧ H a = some (.lst (zV [])) ∧ H b = some (.lst (zV [])) ∧ NE E (.ref C) none H []
theorem WC_meetX {C : Addr} {H0 : Hp} {fs : Fs} {Ψ : Value → Option Addr → Fs → Prop} {a b : Addr} (h : Rx H0 fs a (.lst (zV []))) (h2 : Rx H0 fs b (.lst (zV []))) (q : Ψ (.ref C) none fs) : WCX (sp_meetX C) [.ref a, .ref b] H0 fs Ψ :=
  fun H k Q E c => ⟨a, b, rfl, h H k, h2 H k, fun H' k' => c _ _ _ _ (k.app k') q⟩
theorem okX_meet (T : Txt P K mg base) : FnOk P w K mg base (L2.CX P w) 46 T.a_meet T.d_meet ["ones", "others"] (sp_meetX T.A_NoMeet) := by
  refine T.F_meet.okX sc_meet (fun vs H Q E h => ?_) (fun cdv A outer s H vs Q E hr h => ?_)
  · obtain ⟨a, b, rfl, _⟩ := h; rfl
  · obtain ⟨a, b, rfl, ha, hb, q⟩ := h
    refine ⟨_, (pss_cons (ps_if (PW.pt (pw_and (pt_cmpR (op_eqD hr.units) (pv 0) (pe_lst pa_nil) (nomark _)) (pw_and1 (pt_cmpR (op_eqD hr.units) (pv 1) (pe_lst pa_nil) (nomark _))))) (pss_one (ps_raise rfl (takes_of rfl rfl rfl rfl) (pmk_own PySem.F.excBase_ValueError T.e_NoMeet.x T.e_NoMeet.g T.e_NoMeet.k (raises_own T.e_NoMeet.b T.e_NoMeet.t) (by rfl)))) pss_nil)
      (pss_cons (ps_set (i := 2) sc_meet.nd rfl (Or.inl rfl) (pe_call (ok_begun T) (hr.mono (by decide)) (by rfl) T.m_begun T.F_begun.kp T.b_begun .nil pass0 (pa_cons (pv 0) (pa_cons pe_bl pa_nil))))
      pss_never)), ?_⟩
    refine N.go (σ := [some (.ref a), some (.ref b), none, none, none, none]) ?_
    walk_at "w"
    intro z
    refine RW.eqZ (xs := []) (ys := []) (by walk_at "rl") (by walk_at "rl") ?_
    walk_at "w"
    intro z2
    refine RW.eqZ (xs := []) (ys := []) (by walk_at "rl") (by walk_at "rl") ?_
    walk_at "w"
    exact fun H' k => q H' (k.sub (by walk_at "sub"))

end

section
variable {P : Program} {w : World} {K : PySem.W.Frag} {mg : Str → Option Value} {base : Heap}
/-- on ints -/
def sp__law_whole : Sp := fun vs H Q _ => ∃ (i : Int), vs = [.int i] ∧ NR Q (.bl true) H []
theorem WC__law_whole {H0 : Hp} {fs : Fs} {Φ : CV} {i : Int} (q : Φ (.bl true) fs) : WC sp__law_whole [.int i] H0 fs Φ := fun H k Q E c => ⟨i, rfl, fun H' k' => c _ _ _ (k.app k') q⟩
theorem ok__law_whole (T : Txt P K mg base) : FnOk P w K mg base CX0 41 T.a__law_whole T.d__law_whole ["_law_found"] sp__law_whole := by
  refine T.F__law_whole.ok sc__law_whole (fun vs H Q E h => ?_) (fun cdv A outer s H vs Q E hr h => ?_)
  · obtain ⟨i, rfl, _⟩ := h; rfl
  · obtain ⟨i, rfl, q⟩ := h
    refine ⟨_, (pss_one (ps_ret (pe_and (pe_callB call_isi (by rfl) T.z_isinstance (by decide +kernel) (pa_cons (pv 0) (pa_cons (pe_bltn (v := .ty "int") (by rfl) T.z_int (by decide +kernel) rfl) pa_nil))) (pe_one (pe_not (pe_callB call_isi (by rfl) T.z_isinstance (by decide +kernel) (pa_cons (pv 0) (pa_cons (pe_bltn (v := .ty "bool") (by rfl) T.z_bool (by decide +kernel) rfl) pa_nil)))))))), ?_⟩
    refine N.go (σ := [some (.int i)]) ?_
    walk_at "w"
    walk_at "fin"

end

section
variable {P : Program} {w : World} {K : PySem.W.Frag} {mg : Str → Option Value} {base : Heap}
def sp__law_cell_at (K : PySem.W.Frag) : Sp := fun vs H Q _ => ∃ (a : Addr) (ns : List Int) (i : Int), vs = [.ref a, .int i] ∧ SqL K H a (zV ns) ∧ 0 ≤ i ∧ NR Q (.int (gat ns i)) H []
theorem WC__law_cell_at {K : PySem.W.Frag} {H0 : Hp} {fs : Fs} {Φ : CV} {a : Addr} {ns : List Int} {i : Int} (h : Rl K H0 fs a (zV ns)) (hi : 0 ≤ i) (q : Φ (.int (gat ns i)) fs) : WC (sp__law_cell_at K) [.ref a, .int i] H0 fs Φ :=
  fun H k Q E c => ⟨a, ns, i, rfl, h H k, hi, fun H' k' => c _ _ _ (k.app k') q⟩
theorem ok__law_cell_at (T : Txt P K mg base) : FnOk P w K mg base CX0 41 T.a__law_cell_at T.d__law_cell_at ["_law_script", "_law_k"] (sp__law_cell_at K) := by
  refine T.F__law_cell_at.ok sc__law_cell_at (fun vs H Q E h => ?_) (fun cdv A outer s H vs Q E hr h => ?_)
  · obtain ⟨a, ns, i, rfl, _⟩ := h; rfl
  · obtain ⟨a, ns, i, rfl, hS, h0, q⟩ := h
    refine ⟨_, (pss_cons (ps_if (pt_cmpR op_lt (pv 1) (pe_callB cLen (by rfl) T.z_len PySem.boot_len (pa_cons (pv 0) pa_nil)) (nomark _)) (pss_one (ps_ret (pe_ix ix_list (pv 0) (pv 1) (fun _ _ => rfl)))) pss_nil)
      (pss_one (ps_ret pe_int))), ?_⟩
    refine N.go (σ := [some (.ref a), some (.int i)]) ?_
    walk_at "w"
    walk_at "if"
    · walk_at "w"
      walk_at "fin"
    · walk_at "w"
      have e : gat ns i = 0 := by
        unfold gat
        rw [List.getD_eq_getElem?_getD, List.getElem?_eq_none (by omega)]; rfl
      rw [e] at q
      walk_at "fin"

end

section
variable {P : Program} {w : World} {K : PySem.W.Frag} {mg : Str → Option Value} {base : Heap}
def sp__law_trim : Sp := fun vs H Q _ => ∃ (a : Addr) (xs : List Int), vs = [.ref a] ∧ H a = some (.lst (zV xs)) ∧ xs.length ≤ 100000 ∧ ∀ p, NR Q (.ref p) H [(p, .lst (zV (trim xs)))]
theorem WC__law_trim {H0 : Hp} {fs : Fs} {Φ : CV} {a : Addr} {xs : List Int} (h : Rx H0 fs a (.lst (zV xs))) (hl : xs.length ≤ 100000) (q : ∀ p, Φ (.ref p) ((p, .lst (zV (trim xs))) :: fs)) : WC sp__law_trim [.ref a] H0 fs Φ :=
  fun H k Q E c => ⟨a, xs, rfl, h H k, hl, fun p H' k' => c _ _ _ (k.app k') (q p)⟩
theorem ok__law_trim (T : Txt P K mg base) : FnOk P w K mg base CX0 41 T.a__law_trim T.d__law_trim ["_law_row_here"] sp__law_trim := by
  refine T.F__law_trim.ok sc__law_trim (fun vs H Q E h => ?_) (fun cdv A outer s H vs Q E hr h => ?_)
  · obtain ⟨a, xs, rfl, _⟩ := h; rfl
  · obtain ⟨a, xs, rfl, hA, hl, q⟩ := h
    refine ⟨_, (pss_cons (ps_set (i := 1) sc__law_trim.nd rfl (Or.inl rfl) (pe_callB cLen (by rfl) T.z_len PySem.boot_len (pa_cons (pv 0) pa_nil)))
      (pss_cons (ps_while PassesOwn.never (PW.pt (pw_and (pt_cmpR op_gt (pv 1) pe_int (nomark _)) (pw_and1 (pt_cmpR op_eq (pe_ix ix_list (pv 0) (pe_op op_sub (pv 1) pe_int) (fun _ _ => rfl)) pe_int (nomark _))))) (pss_one (ps_set (i := 1) sc__law_trim.nd rfl (Or.inl rfl) (pe_op op_sub (pv 1) pe_int))))
      (pss_one (ps_ret (pe_slice sl_list (pv 0) po_none (po_some (pv 1))))))), ?_⟩
    refine N.go (σ := [some (.ref a), none]) ?_
    walk_at "w"
    refine S.while_ (fun m σ f => σ = [some (.ref a), some (.int (m : Int))] ∧ f = [] ∧ m ≤ xs.length ∧ trim xs = trim (xs.take m)) xs.length ⟨rfl, rfl, Nat.le_refl _, by rw [List.take_length]⟩ ?_
    rintro m σ f ⟨rfl, rfl, hm, ht⟩
    walk_at "w"
    walk_at "if"
    · walk_at "w"
      walk_at "if"
      · -- one nought less
        walk_at "w"
        rename_i h1 h2
        have em : ((m : Int) - 1) = ((m - 1 : Nat) : Int) := by omega
        rw [em]
        refine Wl.nx (m' := m - 1) (by omega) ⟨rfl, rfl, by omega, ?_⟩
        rw [ht]
        have e2 : m = (m - 1) + 1 := by omega
        rw [em, gat_nat] at h2
        rw [e2, take_succ_getD (by omega : m - 1 < xs.length), h2, trim_zero]
        rfl
      · walk_at "w"
        rename_i h1 h2
        intro l
        have em : ((m : Int) - 1) = ((m - 1 : Nat) : Int) := by omega
        have e2 : m = (m - 1) + 1 := by omega
        rw [em, gat_nat] at h2
        have e3 : trim xs = xs.take m := by
          rw [ht, e2, take_succ_getD (by omega : m - 1 < xs.length), trim_last _ h2]
        rw [e3] at q
        have e4 : ((m : Int)).toNat = m := by simp
        rw [e4]
        exact NR.sub (q l) (by walk_at "sub")
    · walk_at "w"
      rename_i h1
      intro l
      have e0 : m = 0 := by omega
      subst e0
      have e3 : trim xs = [] := by rw [ht]; rfl
      rw [e3] at q
      exact NR.sub (q l) (by walk_at "sub")

end

section
variable {P : Program} {w : World} {K : PySem.W.Frag} {mg : Str → Option Value} {base : Heap}
/-- the same numbers -/
def sp__law_same : Sp := fun vs H Q _ => ∃ (a b : Addr) (xs : List Int), vs = [.ref a, .ref b] ∧ H a = some (.lst (zV xs)) ∧ H b = some (.lst (zV xs)) ∧ xs.length ≤ 100000 ∧ NR Q (.bl true) H []
theorem WC__law_same {H0 : Hp} {fs : Fs} {Φ : CV} {a b : Addr} {xs : List Int} (h : Rx H0 fs a (.lst (zV xs))) (h2 : Rx H0 fs b (.lst (zV xs))) (hl : xs.length ≤ 100000) (q : Φ (.bl true) fs) : WC sp__law_same [.ref a, .ref b] H0 fs Φ :=
  fun H k Q E c => ⟨a, b, xs, rfl, h H k, h2 H k, hl, fun H' k' => c _ _ _ (k.app k') q⟩
theorem ok__law_same (T : Txt P K mg base) : FnOk P w K mg base CX0 42 T.a__law_same T.d__law_same ["_law_found", "_law_due"] sp__law_same := by
  refine T.F__law_same.ok sc__law_same (fun vs H Q E h => ?_) (fun cdv A outer s H vs Q E hr h => ?_)
  · obtain ⟨a, b, xs, rfl, _⟩ := h; rfl
  · obtain ⟨a, b, xs, rfl, hA, hB, hl, q⟩ := h
    refine ⟨_, (pss_cons (ps_if (PW.pt (pw_or (pt_not (pt_val (pe_callB call_isi (by rfl) T.z_isinstance (by decide +kernel) (pa_cons (pv 0) (pa_cons (pe_bltn (v := .ty "list") (by rfl) T.z_list (by decide +kernel) rfl) pa_nil))))) (pw_or1 (pt_cmpR op_ne (pe_callB cLen (by rfl) T.z_len PySem.boot_len (pa_cons (pv 0) pa_nil)) (pe_callB cLen (by rfl) T.z_len PySem.boot_len (pa_cons (pv 1) pa_nil)) (nomark _))))) (pss_one (ps_ret pe_bl)) pss_nil)
      (pss_cons (ps_for PassesOwn.never rfl (pi_range1 rfl T.z_range (pa_cons (pe_callB cLen (by rfl) T.z_len PySem.boot_len (pa_cons (pv 1) pa_nil)) pa_nil)) (pg_name (i := 2) sc__law_same.nd rfl (Or.inl rfl)) (pss_one (ps_if (PW.pt (pw_or (pt_not (pt_val (pe_call (ok__law_whole T) (hr.mono (by decide)) (by rfl) T.m__law_whole T.F__law_whole.kp T.b__law_whole .nil pass0 (pa_cons (pe_ix ix_list (pv 0) (pv 2) (fun _ _ => rfl)) pa_nil)))) (pw_or1 (pt_cmpR op_ne (pe_ix ix_list (pv 0) (pv 2) (fun _ _ => rfl)) (pe_ix ix_list (pv 1) (pv 2) (fun _ _ => rfl)) (nomark _))))) (pss_one (ps_ret pe_bl)) pss_nil)))
      (pss_one (ps_ret pe_bl)))), ?_⟩
    refine N.go (σ := [some (.ref a), some (.ref b), none]) ?_
    walk_at "w"
    walk_at "if"
    walk_at "w"
    refine S.forR (n := (xs.length : Int)) (fun i σ f => (∃ y, σ = [some (.ref a), some (.ref b), y]) ∧ f = []) ?_ ?_ ?_
    · walk_at "w"
      exact ⟨rfl, by omega, by omega, ⟨_, rfl⟩, rfl⟩
    · rintro i σ f hi ⟨⟨y, rfl⟩, rfl⟩
      walk_at "d"
      walk_at "w"
      refine WC__law_whole ?_
      walk_at "w"
      walk_at "if"
      walk_at "w"
      walk_at "lp"
      exact ⟨⟨_, rfl⟩, rfl⟩
    · rintro σ f ⟨⟨y, rfl⟩, rfl⟩
      walk_at "w"
      walk_at "fin"

end

section
variable {P : Program} {w : World} {K : PySem.W.Frag} {mg : Str → Option Value} {base : Heap}
/-- a number drawn from a cell -/
def num__law_number (c : Int) : Int := if c % 7 = 0 then 0 else if c % 49 = 1 then (1 - c / 49 % 2 * 2) * (c / 98 % 10 ^ 12) else if c % 49 = 8 then (1 - c / 49 % 2 * 2) * (c / 98 % 10 ^ 40) else c / 7 % 19 - 9
theorem num__law_number_bd3 (c : Int) : Bd 133 (num__law_number c) := by
  unfold num__law_number Bd
  have h1 : 0 ≤ c / 98 % 10 ^ 40 := Int.emod_nonneg _ (by decide)
  have h2 : c / 98 % 10 ^ 40 < 10 ^ 40 := Int.emod_lt_of_pos _ (by decide)
  have h3 : c / 49 % 2 = 0 ∨ c / 49 % 2 = 1 := by omega
  have h4 : 0 ≤ c / 98 % 10 ^ 12 := Int.emod_nonneg _ (by decide)
  have h5 : c / 98 % 10 ^ 12 < 10 ^ 12 := Int.emod_lt_of_pos _ (by decide)
  have e : (10 : Int) ^ 40 = 10000000000000000000000000000000000000000 := by decide
  have e3 : (10 : Int) ^ 12 = 1000000000000 := by decide
  have e2 : (2 : Nat) ^ 133 = 10889035741470030830827987437816582766592 := by decide
  rw [e2]
  rw [e] at h1 h2 ⊢
  rw [e3] at h4 h5 ⊢
  split
  · decide
  · split
    · rcases h3 with h3 | h3 <;> rw [h3] <;> omega
    · split
      · rcases h3 with h3 | h3 <;> rw [h3] <;> omega
      · omega
theorem num__law_number_bd (c : Int) : Bd 140 (num__law_number c) := (num__law_number_bd3 c).mono (by decide)
def sp__law_number : Sp := fun vs H Q _ => ∃ (c : Int), vs = [.int c] ∧ NR Q (.int (num__law_number c)) H []
theorem WC__law_number {H0 : Hp} {fs : Fs} {Φ : CV} {c : Int} (q : Φ (.int (num__law_number c)) fs) : WC sp__law_number [.int c] H0 fs Φ := fun H k Q E cc => ⟨c, rfl, fun H' k' => cc _ _ _ (k.app k') q⟩
theorem ok__law_number (T : Txt P K mg base) : FnOk P w K mg base CX0 41 T.a__law_number T.d__law_number ["_law_cell"] sp__law_number := by
  refine T.F__law_number.ok sc__law_number (fun vs H Q E h => ?_) (fun cdv A outer s H vs Q E hr h => ?_)
  · obtain ⟨c, rfl, _⟩ := h; rfl
  · obtain ⟨c, rfl, q⟩ := h
    refine ⟨_, (pss_cons (ps_if (pt_cmpR op_eq (pe_op op_mod (pv 0) pe_int) pe_int (nomark _)) (pss_one (ps_ret pe_int)) pss_nil)
      (pss_cons (ps_if (pt_cmpR op_eq (pe_op op_mod (pv 0) pe_int) pe_int (nomark _)) (pss_one (ps_ret (pe_op op_mulG (pe_op op_sub pe_int (pe_op op_mulG (pe_op op_mod (pe_op op_fdiv (pv 0) pe_int) pe_int) pe_int)) (pe_op op_mod (pe_op op_fdiv (pv 0) pe_int) (pe_op op_pow pe_int pe_int))))) pss_nil)
      (pss_cons (ps_if (pt_cmpR op_eq (pe_op op_mod (pv 0) pe_int) pe_int (nomark _)) (pss_one (ps_ret (pe_op op_mulG (pe_op op_sub pe_int (pe_op op_mulG (pe_op op_mod (pe_op op_fdiv (pv 0) pe_int) pe_int) pe_int)) (pe_op op_mod (pe_op op_fdiv (pv 0) pe_int) (pe_op op_pow pe_int pe_int))))) pss_nil)
      (pss_one (ps_ret (pe_op op_sub (pe_op op_mod (pe_op op_fdiv (pv 0) pe_int) pe_int) pe_int)))))), ?_⟩
    refine N.go (σ := [some (.int c)]) ?_
    unfold num__law_number at q
    walk_at "w"
    walk_at "if"
    · rename_i h1
      rw [if_pos h1] at q
      walk_at "w"
      walk_at "fin"
    · rename_i h1
      rw [if_neg h1] at q
      walk_at "w"
      walk_at "if"
      · rename_i h2
        rw [if_pos h2] at q
        walk_at "w"
        walk_at "fin"
      · rename_i h2
        rw [if_neg h2] at q
        walk_at "w"
        walk_at "if"
        · rename_i h3
          rw [if_pos h3] at q
          walk_at "w"
          walk_at "fin"
        · rename_i h3
          rw [if_neg h3] at q
          walk_at "w"
          walk_at "fin"

end

section
variable {P : Program} {w : World} {K : PySem.W.Frag} {mg : Str → Option Value} {base : Heap}
/-- a small number drawn from a cell -/
def small__law_small (c : Int) : Int := if c % 4 = 1 then (1 - c / 4 % 2 * 2) * (c / 8 % 10 ^ 10) else c / 4 % 7 - 3
theorem small__law_small_bd (c : Int) : Bd 34 (small__law_small c) := by
  unfold small__law_small Bd
  have h1 : 0 ≤ c / 8 % 10 ^ 10 := Int.emod_nonneg _ (by decide)
  have h2 : c / 8 % 10 ^ 10 < 10 ^ 10 := Int.emod_lt_of_pos _ (by decide)
  have h3 : c / 4 % 2 = 0 ∨ c / 4 % 2 = 1 := by omega
  have e : (10 : Int) ^ 10 = 10000000000 := by decide
  have e2 : (2 : Nat) ^ 34 = 17179869184 := by decide
  rw [e2]
  rw [e] at h1 h2 ⊢
  split
  · rcases h3 with h3 | h3 <;> rw [h3] <;> omega
  · omega
def sp__law_small : Sp := fun vs H Q _ => ∃ (c : Int), vs = [.int c] ∧ NR Q (.int (small__law_small c)) H []
theorem WC__law_small {H0 : Hp} {fs : Fs} {Φ : CV} {c : Int} (q : Φ (.int (small__law_small c)) fs) : WC sp__law_small [.int c] H0 fs Φ := fun H k Q E cc => ⟨c, rfl, fun H' k' => cc _ _ _ (k.app k') q⟩
theorem ok__law_small (T : Txt P K mg base) : FnOk P w K mg base CX0 41 T.a__law_small T.d__law_small ["_law_cell"] sp__law_small := by
  refine T.F__law_small.ok sc__law_small (fun vs H Q E h => ?_) (fun cdv A outer s H vs Q E hr h => ?_)
  · obtain ⟨c, rfl, _⟩ := h; rfl
  · obtain ⟨c, rfl, q⟩ := h
    refine ⟨_, (pss_cons (ps_if (pt_cmpR op_eq (pe_op op_mod (pv 0) pe_int) pe_int (nomark _)) (pss_one (ps_ret (pe_op op_mulG (pe_op op_sub pe_int (pe_op op_mulG (pe_op op_mod (pe_op op_fdiv (pv 0) pe_int) pe_int) pe_int)) (pe_op op_mod (pe_op op_fdiv (pv 0) pe_int) (pe_op op_pow pe_int pe_int))))) pss_nil)
      (pss_one (ps_ret (pe_op op_sub (pe_op op_mod (pe_op op_fdiv (pv 0) pe_int) pe_int) pe_int)))), ?_⟩
    refine N.go (σ := [some (.int c)]) ?_
    unfold small__law_small at q
    walk_at "w"
    walk_at "if"
    · rename_i h1
      rw [if_pos h1] at q
      walk_at "w"
      walk_at "fin"
    · rename_i h1
      rw [if_neg h1] at q
      walk_at "w"
      walk_at "fin"

end

section
variable {P : Program} {w : World} {K : PySem.W.Frag} {mg : Str → Option Value} {base : Heap}
/-- a drawn row -/
def drawn (ns : List Int) (place size many : Int) : List Int :=
  trim (if 0 < many then (List.range many.toNat).map (fun (k : Nat) => num__law_number (gat ns place + 97 * (k : Int) * (k : Int) + 13 * (k : Int)))
    else (List.range size.toNat).map (fun (k : Nat) => num__law_number (gat ns (place + (k : Int)))))
theorem drawn_len (ns : List Int) {place size many : Int} (h1 : size ≤ 100) (h2 : many ≤ 101) : (drawn ns place size many).length ≤ 101 := by
  unfold drawn
  refine Nat.le_trans (trim_length_le _) ?_
  split <;> (simp; omega)
theorem drawn_len2 (ns : List Int) {place size many : Int} {n : Nat} (h1 : size ≤ n) (h2 : many ≤ n) : (drawn ns place size many).length ≤ n := by
  unfold drawn
  refine Nat.le_trans (trim_length_le _) ?_
  split <;> (simp; omega)
theorem drawn_tr (ns : List Int) (place size many : Int) : Tr (drawn ns place size many) := tr_trim _
theorem drawn_bd (ns : List Int) (place size many : Int) : BdL 140 (drawn ns place size many) := by
  refine BdL.trim fun x hx => ?_
  split at hx
  · obtain ⟨k, _, rfl⟩ := List.mem_map.mp hx
    exact num__law_number_bd _
  · obtain ⟨k, _, rfl⟩ := List.mem_map.mp hx
    exact num__law_number_bd _
def sp__law_drawn (K : PySem.W.Frag) : Sp := fun vs H Q _ => ∃ (a : Addr) (ns : List Int) (place size many : Int), vs = [.ref a, .int place, .int size, .int many] ∧ SqL K H a (zV ns) ∧ 0 ≤ place ∧ (0 ≤ size ∧ size ≤ 1000) ∧ (0 ≤ many ∧ many ≤ 1000) ∧
  ∀ p, NR Q (.ref p) H [(p, .lst (zV (drawn ns place size many)))]
theorem WC__law_drawn {K : PySem.W.Frag} {H0 : Hp} {fs : Fs} {Φ : CV} {a : Addr} {ns : List Int} {place size many : Int} (h : Rl K H0 fs a (zV ns)) (hi : 0 ≤ place) (hs : 0 ≤ size ∧ size ≤ 1000) (hm : 0 ≤ many ∧ many ≤ 1000)
    (q : ∀ p, Φ (.ref p) ((p, .lst (zV (drawn ns place size many))) :: fs)) : WC (sp__law_drawn K) [.ref a, .int place, .int size, .int many] H0 fs Φ :=
  fun H k Q E c => ⟨a, ns, place, size, many, rfl, h H k, hi, hs, hm, fun p H' k' => c _ _ _ (k.app k') (q p)⟩
theorem ok__law_drawn (T : Txt P K mg base) : FnOk P w K mg base CX0 42 T.a__law_drawn T.d__law_drawn ["_law_script", "_law_place", "_law_size", "_law_many"] (sp__law_drawn K) := by
  refine T.F__law_drawn.ok sc__law_drawn (fun vs H Q E h => ?_) (fun cdv A outer s H vs Q E hr h => ?_)
  · obtain ⟨a, ns, place, size, many, rfl, _⟩ := h; rfl
  · obtain ⟨a, ns, place, size, many, rfl, hA, h0, hs, hm, q⟩ := h
    refine ⟨_, (pss_cons (ps_setLc (i := 4) (own := [("_law_k", 5)]) (g := gName 5) (tt := tYes) rfl sc__law_drawn.nd rfl rfl (sw_true rfl rfl rfl (by decide +kernel)) (pi_range1 rfl T.z_range (pa_cons (pv 2) pa_nil)) (blkOk_by (own := [("_law_k", 5)]) (N := ["_law_script", "_law_place", "_law_size", "_law_many", "_law_row_here", "_law_k"]) (sc := defScope s__law_drawn) (by decide +kernel)) (fun _ _ _ _ _ => pg_name (i := 5) sc__law_drawn.nd rfl (Or.inl rfl)) (fun _ _ _ _ _ => pts_nil) (fun _ _ _ _ _ => (pe_call (ok__law_number T) (hr.mono (by decide)) (by rfl) T.m__law_number T.F__law_number.kp T.b__law_number .nil pass0 (pa_cons (pe_call (ok__law_cell_at T) (hr.mono (by decide)) (by rfl) T.m__law_cell_at T.F__law_cell_at.kp T.b__law_cell_at .nil pass0 (pa_cons (pv 0) (pa_cons (pe_op op_add (pv 1) (pv 5)) pa_nil))) pa_nil))))
      (pss_cons (ps_if (pt_cmpR op_gt (pv 3) pe_int (nomark _)) (pss_one (ps_setLc (i := 4) (own := [("_law_k", 5)]) (g := gName 5) (tt := tYes) rfl sc__law_drawn.nd rfl rfl (sw_true rfl rfl rfl (by decide +kernel)) (pi_range1 rfl T.z_range (pa_cons (pv 3) pa_nil)) (blkOk_by (own := [("_law_k", 5)]) (N := ["_law_script", "_law_place", "_law_size", "_law_many", "_law_row_here", "_law_k"]) (sc := defScope s__law_drawn) (by decide +kernel)) (fun _ _ _ _ _ => pg_name (i := 5) sc__law_drawn.nd rfl (Or.inl rfl)) (fun _ _ _ _ _ => pts_nil) (fun _ _ _ _ _ => (pe_call (ok__law_number T) (hr.mono (by decide)) (by rfl) T.m__law_number T.F__law_number.kp T.b__law_number .nil pass0 (pa_cons (pe_op op_add (pe_op op_add (pe_call (ok__law_cell_at T) (hr.mono (by decide)) (by rfl) T.m__law_cell_at T.F__law_cell_at.kp T.b__law_cell_at .nil pass0 (pa_cons (pv 0) (pa_cons (pv 1) pa_nil))) (pe_op op_mulG (pe_op op_mulG pe_int (pv 5)) (pv 5))) (pe_op op_mulG pe_int (pv 5))) pa_nil))))) pss_nil)
      (pss_one (ps_ret (pe_call (ok__law_trim T) (hr.mono (by decide)) (by rfl) T.m__law_trim T.F__law_trim.kp T.b__law_trim .nil pass0 (pa_cons (pv 4) pa_nil)))))), ?_⟩
    refine N.go (σ := [some (.ref a), some (.int place), some (.int size), some (.int many), none, none]) ?_
    walk_at "w"
    refine W.lcRz (n := size) (fun (k : Nat) => num__law_number (gat ns (place + (k : Int)))) ?_
    walk_at "w"
    refine ⟨rfl, by omega, by omega, fun _ => rfl, fun i D acc hi => ?_, fun D => ?_⟩
    · walk_at "d"
      walk_at "w"
      refine WC__law_cell_at (ns := ns) (by walk_at "rl") (by omega) ?_
      walk_at "w"
      refine WC__law_number ?_
      exact ⟨rfl, by walk_at "sub"⟩
    · walk_at "d"
      walk_at "w"
      walk_at "if"
      · walk_at "w"
        rename_i hpos
        refine W.lcRz (n := many) (fun (k : Nat) => num__law_number (gat ns place + 97 * (k : Int) * (k : Int) + 13 * (k : Int))) ?_
        walk_at "w"
        refine ⟨rfl, by omega, by omega, fun _ => rfl, fun i D acc hi => ?_, fun D => ?_⟩
        · walk_at "d"
          walk_at "w"
          refine WC__law_cell_at (ns := ns) (by walk_at "rl") (by omega) ?_
          walk_at "w"
          refine WC__law_number ?_
          exact ⟨rfl, by walk_at "sub"⟩
        · walk_at "d"
          walk_at "w"
          refine WC__law_trim (by walk_at "rx") (by simp; omega) fun p => ?_
          unfold drawn at q
          rw [if_pos hpos] at q
          exact NR.sub (q p) (by walk_at "sub")
      · walk_at "w"
        rename_i hpos
        refine WC__law_trim (by walk_at "rx") (by simp; omega) fun p => ?_
        unfold drawn at q
        rw [if_neg hpos] at q
        exact NR.sub (q p) (by walk_at "sub")

end

section
variable {P : Program} {w : World} {K : PySem.W.Frag} {mg : Str → Option Value} {base : Heap}
def sp__law_plus : Sp := fun vs H Q _ => ∃ (a b : Addr) (xs ys : List Int), vs = [.ref a, .ref b] ∧ H a = some (.lst (zV xs)) ∧ H b = some (.lst (zV ys)) ∧ (xs.length ≤ 90000 ∧ ys.length ≤ 90000) ∧ ∀ p, NR Q (.ref p) H [(p, .lst (zV (plus xs ys)))]
theorem WC__law_plus {H0 : Hp} {fs : Fs} {Φ : CV} {a b : Addr} {xs ys : List Int} (h : Rx H0 fs a (.lst (zV xs))) (h2 : Rx H0 fs b (.lst (zV ys))) (hl : xs.length ≤ 90000 ∧ ys.length ≤ 90000) (q : ∀ p, Φ (.ref p) ((p, .lst (zV (plus xs ys))) :: fs)) : WC sp__law_plus [.ref a, .ref b] H0 fs Φ :=
  fun H k Q E c => ⟨a, b, xs, ys, rfl, h H k, h2 H k, hl, fun p H' k' => c _ _ _ (k.app k') (q p)⟩
theorem gat_app_zeros (xs : List Int) (k : Nat) (i : Int) : gat (xs ++ List.replicate k 0) i = gat xs i := getD_app_zeros xs k i.toNat
theorem ok__law_plus (T : Txt P K mg base) : FnOk P w K mg base CX0 42 T.a__law_plus T.d__law_plus ["_law_ones", "_law_others"] sp__law_plus := by
  refine T.F__law_plus.ok sc__law_plus (fun vs H Q E h => ?_) (fun cdv A outer s H vs Q E hr h => ?_)
  · obtain ⟨a, b, xs, ys, rfl, _⟩ := h; rfl
  · obtain ⟨a, b, xs, ys, rfl, hA, hB, hl, q⟩ := h
    refine ⟨_, (pss_cons (ps_set (i := 2) sc__law_plus.nd rfl (Or.inl rfl) (pe_callB (cMax2 rfl) (by rfl) T.z_max (by decide +kernel) (pa_cons (pe_callB cLen (by rfl) T.z_len PySem.boot_len (pa_cons (pv 0) pa_nil)) (pa_cons (pe_callB cLen (by rfl) T.z_len PySem.boot_len (pa_cons (pv 1) pa_nil)) pa_nil))))
      (pss_cons (ps_set (i := 0) sc__law_plus.nd rfl (Or.inr rfl) (pe_op op_cat (pv 0) (pe_op op_rep (pe_lst (pa_cons pe_int pa_nil)) (pe_op op_sub (pv 2) (pe_callB cLen (by rfl) T.z_len PySem.boot_len (pa_cons (pv 0) pa_nil))))))
      (pss_cons (ps_set (i := 1) sc__law_plus.nd rfl (Or.inr rfl) (pe_op op_cat (pv 1) (pe_op op_rep (pe_lst (pa_cons pe_int pa_nil)) (pe_op op_sub (pv 2) (pe_callB cLen (by rfl) T.z_len PySem.boot_len (pa_cons (pv 1) pa_nil))))))
      (pss_one (ps_ret (pe_call (ok__law_trim T) (hr.mono (by decide)) (by rfl) T.m__law_trim T.F__law_trim.kp T.b__law_trim .nil pass0 (pa_cons (pe_lc (own := [("_law_k", 3)]) (g := gName 3) (tt := tYes) rfl sc__law_plus.nd (pi_range1 rfl T.z_range (pa_cons (pv 2) pa_nil)) (blkOk_by (own := [("_law_k", 3)]) (N := ["_law_ones", "_law_others", "_law_size", "_law_k"]) (sc := defScope s__law_plus) (by decide +kernel)) (fun _ _ _ _ _ => pg_name (i := 3) sc__law_plus.nd rfl (Or.inl rfl)) (fun _ _ _ _ _ => pts_nil) (fun _ _ _ _ _ => (pe_op op_add (pe_ix (ix_listK (K := K) rfl) (pv 0) (pv 3) (fun _ _ => rfl)) (pe_ix (ix_listK (K := K) rfl) (pv 1) (pv 3) (fun _ _ => rfl))))) pa_nil))))))), ?_⟩
    refine N.go (σ := [some (.ref a), some (.ref b), none, none]) ?_
    walk_at "w"
    walk_at "d"
    walk_at "w"
    intro z
    walk_at "w"
    refine RW.rep (x := 0) (by walk_at "rx") (by omega) fun p => ?_
    refine RW.catZ (xs := xs) (ys := List.replicate (max (xs.length : Int) (ys.length : Int) - (xs.length : Int)).toNat 0) (by walk_at "rx") (by walk_at "rx") (by rw [List.length_replicate]; omega) fun r => ?_
    walk_at "d"
    walk_at "w"
    intro z2
    walk_at "w"
    refine RW.rep (x := 0) (by walk_at "rx") (by omega) fun p2 => ?_
    refine RW.catZ (xs := ys) (ys := List.replicate (max (xs.length : Int) (ys.length : Int) - (ys.length : Int)).toNat 0) (by walk_at "rx") (by walk_at "rx") (by rw [List.length_replicate]; omega) fun r2 => ?_
    walk_at "d"
    walk_at "w"
    refine W.lcRz (n := max (xs.length : Int) (ys.length : Int)) (fun k => gat xs (k : Int) + gat ys (k : Int)) ?_
    walk_at "w"
    refine ⟨rfl, by omega, by omega, fun _ => rfl, fun i D acc hi => ?_, fun D => ?_⟩
    · walk_at "d"
      have h1 : 0 ≤ (i : Int) ∧ (i : Int) < ((xs ++ List.replicate (max (xs.length : Int) (ys.length : Int) - (xs.length : Int)).toNat 0).length : Int) := by
        rw [List.length_append, List.length_replicate]; omega
      have h2 : 0 ≤ (i : Int) ∧ (i : Int) < ((ys ++ List.replicate (max (xs.length : Int) (ys.length : Int) - (ys.length : Int)).toNat 0).length : Int) := by
        rw [List.length_append, List.length_replicate]; omega
      walk_at "w"
      rw [gat_app_zeros, gat_app_zeros]
      exact ⟨rfl, by walk_at "sub"⟩
    · walk_at "w"
      refine WC__law_trim (by walk_at "rx") (by simp; omega) fun p => ?_
      exact NR.sub (q p) (by walk_at "sub")

end

section
variable {P : Program} {w : World} {K : PySem.W.Frag} {mg : Str → Option Value} {base : Heap}
def sp__law_times : Sp := fun vs H Q _ => ∃ (a b : Addr) (xs ys : List Int) (m n : Nat), vs = [.ref a, .ref b] ∧ H a = some (.lst (zV xs)) ∧ H b = some (.lst (zV ys)) ∧ (xs.length ≤ 40000 ∧ ys.length ≤ 40000) ∧ BdL m xs ∧ BdL n ys ∧ m + n ≤ 134217728 ∧ ∀ p, NR Q (.ref p) H [(p, .lst (zV (tm xs ys)))]
theorem WC__law_times {H0 : Hp} {fs : Fs} {Φ : CV} {a b : Addr} {xs ys : List Int} (m n : Nat) (h : Rx H0 fs a (.lst (zV xs))) (h2 : Rx H0 fs b (.lst (zV ys))) (hl : xs.length ≤ 40000 ∧ ys.length ≤ 40000) (hm : BdL m xs) (hn : BdL n ys) (hmn : m + n ≤ 134217728)
    (q : ∀ p, Φ (.ref p) ((p, .lst (zV (tm xs ys))) :: fs)) : WC sp__law_times [.ref a, .ref b] H0 fs Φ :=
  fun H k Q E c => ⟨a, b, xs, ys, m, n, rfl, h H k, h2 H k, hl, hm, hn, hmn, fun p H' k' => c _ _ _ (k.app k') (q p)⟩
theorem ok__law_times (T : Txt P K mg base) : FnOk P w K mg base CX0 42 T.a__law_times T.d__law_times ["_law_ones", "_law_others"] sp__law_times := by
  refine T.F__law_times.ok sc__law_times (fun vs H Q E h => ?_) (fun cdv A outer s H vs Q E hr h => ?_)
  · obtain ⟨a, b, xs, ys, m, n, rfl, _⟩ := h; rfl
  · obtain ⟨a, b, xs, ys, m, n, rfl, hA, hB, hl, hm, hn, hmn, q⟩ := h
    refine ⟨_, (pss_cons (ps_set (i := 2) sc__law_times.nd rfl (Or.inl rfl) (pe_op op_rep (pe_lst (pa_cons pe_int pa_nil)) (pe_op op_add (pe_callB cLen (by rfl) T.z_len PySem.boot_len (pa_cons (pv 0) pa_nil)) (pe_callB cLen (by rfl) T.z_len PySem.boot_len (pa_cons (pv 1) pa_nil)))))
      (pss_cons (ps_for PassesOwn.never rfl (pi_range1 rfl T.z_range (pa_cons (pe_callB cLen (by rfl) T.z_len PySem.boot_len (pa_cons (pv 0) pa_nil)) pa_nil)) (pg_name (i := 3) sc__law_times.nd rfl (Or.inl rfl)) (pss_one (ps_for PassesOwn.never rfl (pi_range1 rfl T.z_range (pa_cons (pe_callB cLen (by rfl) T.z_len PySem.boot_len (pa_cons (pv 1) pa_nil)) pa_nil)) (pg_name (i := 4) sc__law_times.nd rfl (Or.inl rfl)) (pss_one (ps_asg (pe_op op_add (pe_ix ix_list (pv 2) (pe_op op_add (pv 3) (pv 4)) (fun _ _ => rfl)) (pe_op op_mulG (pe_ix ix_list (pv 0) (pv 3) (fun _ _ => rfl)) (pe_ix ix_list (pv 1) (pv 4) (fun _ _ => rfl)))) (pg_sub (pv 2) (pe_op op_add (pv 3) (pv 4)) set_list))))))
      (pss_one (ps_ret (pe_call (ok__law_trim T) (hr.mono (by decide)) (by rfl) T.m__law_trim T.F__law_trim.kp T.b__law_trim .nil pass0 (pa_cons (pv 2) pa_nil)))))), ?_⟩
    refine N.go (σ := [some (.ref a), some (.ref b), none, none, none]) ?_
    walk_at "w"
    intro z
    walk_at "w"
    refine RW.rep (x := 0) (by walk_at "rx") (by omega) fun p => ?_
    have e0 : ((xs.length : Int) + (ys.length : Int)).toNat = xs.length + ys.length := by omega
    rw [e0]
    walk_at "d"
    walk_at "w"
    refine S.forR (n := (xs.length : Int)) (fun i σ f => ∃ y1 y2, σ = [some (.ref a), some (.ref b), some (.ref p), y1, y2] ∧ f = [(p, .lst (zV (lp (tmRow xs ys) i (List.replicate (xs.length + ys.length) 0)))), (z, .lst (zV [0]))]) ?_ ?_ ?_
    · walk_at "w"
      refine ⟨rfl, by omega, by omega, none, none, rfl, rfl⟩
    · rintro i σ f hi ⟨y1, y2, rfl, rfl⟩
      walk_at "d"
      have hacc : (lp (tmRow xs ys) i (List.replicate (xs.length + ys.length) 0)).length = xs.length + ys.length := by
        rw [lp_len (fun i a => tmRow_len _ _ _ _), List.length_replicate]
      have hnext : lp (tmRow xs ys) (i + 1) (List.replicate (xs.length + ys.length) 0) = tmRow xs ys i (lp (tmRow xs ys) i (List.replicate (xs.length + ys.length) 0)) := rfl
      rw [show (fun (i : Nat) (σ : St) (f : Fs) => ∃ y1 y2, σ = [some (.ref a), some (.ref b), some (.ref p), y1, y2] ∧ f = [(p, .lst (zV (lp (tmRow xs ys) i (List.replicate (xs.length + ys.length) 0)))), (z, .lst (zV [0]))]) = (fun (i : Nat) (σ : St) (f : Fs) => ∃ y1 y2, σ = [some (.ref a), some (.ref b), some (.ref p), y1, y2] ∧ f = [(p, .lst (zV (lp (tmRow xs ys) i (List.replicate (xs.length + ys.length) 0)))), (z, .lst (zV [0]))]) from rfl]
      generalize hA0 : lp (tmRow xs ys) i (List.replicate (xs.length + ys.length) 0) = acc at hacc hnext
      refine S.forR (n := (ys.length : Int)) (fun k σ f => ∃ y2, σ = [some (.ref a), some (.ref b), some (.ref p), some (.int (i : Int)), y2] ∧ f = [(p, .lst (zV (lp (tmIn (xs.getD i 0) ys i) k acc))), (z, .lst (zV [0]))]) ?_ ?_ ?_
      · walk_at "w"
        refine ⟨rfl, by omega, by omega, y2, rfl, rfl⟩
      · rintro k σ f hk ⟨y2, rfl, rfl⟩
        walk_at "d"
        have hlen : (lp (tmIn (xs.getD i 0) ys i) k acc).length = xs.length + ys.length := by
          rw [lp_len (fun i a => tmIn_len _ _ _ _ _)]; exact hacc
        have hok : IntMulOk (gat xs (i : Int)) (gat ys (k : Int)) := mulB (hm.gat _) (hn.gat _) hmn
        refine S.setL ?_
        walk_at "w"
        walk_at "set1"
        · rw [zV_length, hlen]; omega
        have ei : ((i : Int) + (k : Int)) = ((i + k : Nat) : Int) := by omega
        have e1 : ((i : Int) + (k : Int)).toNat = i + k := by omega
        rw [e1, zV_set, ei, gat_nat, gat_nat, gat_nat]
        walk_at "d"
        walk_at "lp"
        exact ⟨_, rfl, rfl⟩
      · rintro σ f ⟨y2, rfl, rfl⟩
        have ek : ((ys.length : Int)).toNat = ys.length := by simp
        rw [ek]
        walk_at "lp"
        refine ⟨_, y2, rfl, ?_⟩
        rw [hnext]
        rfl
    · rintro σ f ⟨y1, y2, rfl, rfl⟩
      have ek : ((xs.length : Int)).toNat = xs.length := by simp
      rw [ek]
      walk_at "w"
      have hlen := tmRaw_len xs ys
      refine WC__law_trim (xs := tmRaw xs ys) (by walk_at "rx") (by omega) fun r => ?_
      exact NR.sub (q r) (by walk_at "sub")

end

section
variable {P : Program} {w : World} {K : PySem.W.Frag} {mg : Str → Option Value} {base : Heap}
def sp__law_row : Sp := fun vs H Q _ => ∃ (a : Addr) (xs : List Int), vs = [.ref a] ∧ H a = some (.lst (zV xs)) ∧ Tr xs ∧ NR Q (.bl true) H []
theorem WC__law_row {H0 : Hp} {fs : Fs} {Φ : CV} {a : Addr} {xs : List Int} (h : Rx H0 fs a (.lst (zV xs))) (ht : Tr xs) (q : Φ (.bl true) fs) : WC sp__law_row [.ref a] H0 fs Φ :=
  fun H k Q E c => ⟨a, xs, rfl, h H k, ht, fun H' k' => c _ _ _ (k.app k') q⟩
theorem ok__law_row (T : Txt P K mg base) : FnOk P w K mg base CX0 42 T.a__law_row T.d__law_row ["_law_found"] sp__law_row := by
  refine T.F__law_row.ok sc__law_row (fun vs H Q E h => ?_) (fun cdv A outer s H vs Q E hr h => ?_)
  · obtain ⟨a, xs, rfl, _⟩ := h; rfl
  · obtain ⟨a, xs, rfl, hA, ht, q⟩ := h
    refine ⟨_, (pss_cons (ps_if (pt_not (pt_val (pe_callB call_isi (by rfl) T.z_isinstance (by decide +kernel) (pa_cons (pv 0) (pa_cons (pe_bltn (v := .ty "list") (by rfl) T.z_list (by decide +kernel) rfl) pa_nil))))) (pss_one (ps_ret pe_bl)) pss_nil)
      (pss_cons (ps_for PassesOwn.never rfl (pi_list (pv 0)) (pg_name (i := 1) sc__law_row.nd rfl (Or.inl rfl)) (pss_one (ps_if (pt_not (pt_val (pe_call (ok__law_whole T) (hr.mono (by decide)) (by rfl) T.m__law_whole T.F__law_whole.kp T.b__law_whole .nil pass0 (pa_cons (pv 1) pa_nil)))) (pss_one (ps_ret pe_bl)) pss_nil)))
      (pss_one (ps_ret (pe_or (pe_cmpR (op_eqD hr.units) (pv 0) (pe_lst pa_nil) (nomark _)) (pe_one (pe_cmpR op_ne (pe_ix ix_list (pv 0) (pe_un un_neg pe_int) (fun _ _ => rfl)) pe_int (nomark _)))))))), ?_⟩
    refine N.go (σ := [some (.ref a), none]) ?_
    walk_at "w"
    refine S.forZ (a := a) (ns := xs) (fun i σ f => ∃ y, σ = [some (.ref a), y] ∧ f = []) ?_ ?_ ?_ ?_
    · walk_at "w"
      exact ⟨rfl, by walk_at "rl", none, rfl, rfl⟩
    · rintro i σ f ⟨y, rfl, rfl⟩
      walk_at "rl"
    · rintro i σ f hi ⟨y, rfl, rfl⟩
      walk_at "d"
      walk_at "w"
      refine WC__law_whole ?_
      walk_at "w"
      walk_at "lp"
      exact ⟨_, rfl, rfl⟩
    · rintro σ f ⟨y, rfl, rfl⟩
      walk_at "w"
      intro z
      walk_at "w"
      by_cases hne : xs = []
      · rw [decide_eq_true hne]
        walk_at "w"
        exact NR.sub q (by walk_at "sub")
      · rw [decide_eq_false hne]
        walk_at "w"
        refine RW.ixL (by walk_at "rl") (atI_lastI hne) ?_
        walk_at "w"
        rw [decide_eq_false (tr_last ht hne)]
        exact NR.sub q (by walk_at "sub")

end

section
variable {P : Program} {w : World} {K : PySem.W.Frag} {mg : Str → Option Value} {base : Heap}
def sp__law_greatest : Sp := fun vs H Q _ => ∃ (i j : Int), vs = [.int i, .int j] ∧ NR Q (.int (Nat.gcd i.natAbs j.natAbs : Nat)) H []
theorem WC__law_greatest {H0 : Hp} {fs : Fs} {Φ : CV} {i j : Int} (q : Φ (.int (Nat.gcd i.natAbs j.natAbs : Nat)) fs) : WC sp__law_greatest [.int i, .int j] H0 fs Φ :=
  fun H k Q E c => ⟨i, j, rfl, fun H' k' => c _ _ _ (k.app k') q⟩
theorem ok__law_greatest (T : Txt P K mg base) : FnOk P w K mg base CX0 41 T.a__law_greatest T.d__law_greatest ["_law_one", "_law_other"] sp__law_greatest := by
  refine T.F__law_greatest.ok sc__law_greatest (fun vs H Q E h => ?_) (fun cdv A outer s H vs Q E hr h => ?_)
  · obtain ⟨i, j, rfl, _⟩ := h; rfl
  · obtain ⟨i, j, rfl, q⟩ := h
    refine ⟨_, (pss_cons (ps_set (i := 0) sc__law_greatest.nd rfl (Or.inl rfl) (pe_callB cAbs (by rfl) T.z_abs (by decide +kernel) (pa_cons (pv 0) pa_nil)))
      (pss_cons (ps_set (i := 1) sc__law_greatest.nd rfl (Or.inl rfl) (pe_callB cAbs (by rfl) T.z_abs (by decide +kernel) (pa_cons (pv 1) pa_nil)))
      (pss_cons (ps_while PassesOwn.never (pt_cmpR op_gt (pv 1) pe_int (nomark _)) (pss_cons (ps_set (i := 2) sc__law_greatest.nd rfl (Or.inl rfl) (pe_op op_mod (pv 0) (pv 1)))
      (pss_cons (ps_set (i := 0) sc__law_greatest.nd rfl (Or.inl rfl) (pv 1))
      (pss_one (ps_set (i := 1) sc__law_greatest.nd rfl (Or.inl rfl) (pv 2))))))
      (pss_one (ps_ret (pv 0)))))), ?_⟩
    refine N.go (σ := [some (.int i), some (.int j), none]) ?_
    walk_at "w"
    walk_at "d"
    walk_at "w"
    walk_at "d"
    walk_at "w"
    refine S.while_ (fun m σ f => ∃ x z, σ = [some (.int ((x : Nat) : Int)), some (.int (m : Int)), z] ∧ f = [] ∧ Nat.gcd x m = Nat.gcd i.natAbs j.natAbs) j.natAbs ⟨i.natAbs, none, rfl, rfl, rfl⟩ ?_
    rintro m σ f ⟨x, z, rfl, rfl, hg⟩
    walk_at "w"
    walk_at "if"
    · rename_i hp
      have hm : 0 < m := by omega
      walk_at "w"
      walk_at "d"
      walk_at "w"
      walk_at "d"
      walk_at "w"
      walk_at "d"
      have e : ((x : Int) % (m : Int)) = ((x % m : Nat) : Int) := (Int.natCast_emod x m).symm
      rw [e]
      refine Wl.nx (m' := x % m) (Nat.mod_lt _ hm) ⟨m, _, rfl, rfl, ?_⟩
      rw [← hg, Nat.gcd_comm x m, Nat.gcd_rec m x, Nat.gcd_comm]
    · rename_i hp
      have hm : m = 0 := by omega
      subst hm
      rw [Nat.gcd_zero_right] at hg
      walk_at "w"
      rw [hg]
      exact NR.sub q (by walk_at "sub")

end

section
variable {P : Program} {w : World} {K : PySem.W.Frag} {mg : Str → Option Value} {base : Heap}
def sp__law_content : Sp := fun vs H Q _ => ∃ (a : Addr) (xs : List Int), vs = [.ref a] ∧ H a = some (.lst (zV xs)) ∧ NR Q (.int (cont xs : Int)) H []
theorem WC__law_content {H0 : Hp} {fs : Fs} {Φ : CV} {a : Addr} {xs : List Int} (h : Rx H0 fs a (.lst (zV xs))) (q : Φ (.int (cont xs : Int)) fs) : WC sp__law_content [.ref a] H0 fs Φ :=
  fun H k Q E c => ⟨a, xs, rfl, h H k, fun H' k' => c _ _ _ (k.app k') q⟩
theorem ok__law_content (T : Txt P K mg base) : FnOk P w K mg base CX0 42 T.a__law_content T.d__law_content ["_law_row_here"] sp__law_content := by
  refine T.F__law_content.ok sc__law_content (fun vs H Q E h => ?_) (fun cdv A outer s H vs Q E hr h => ?_)
  · obtain ⟨a, xs, rfl, _⟩ := h; rfl
  · obtain ⟨a, xs, rfl, hA, q⟩ := h
    refine ⟨_, (pss_cons (ps_set (i := 1) sc__law_content.nd rfl (Or.inl rfl) pe_int)
      (pss_cons (ps_for PassesOwn.never rfl (pi_list (pv 0)) (pg_name (i := 2) sc__law_content.nd rfl (Or.inl rfl)) (pss_one (ps_set (i := 1) sc__law_content.nd rfl (Or.inl rfl) (pe_call (ok__law_greatest T) (hr.mono (by decide)) (by rfl) T.m__law_greatest T.F__law_greatest.kp T.b__law_greatest .nil pass0 (pa_cons (pv 1) (pa_cons (pv 2) pa_nil))))))
      (pss_one (ps_ret (pv 1))))), ?_⟩
    refine N.go (σ := [some (.ref a), none, none]) ?_
    walk_at "w"
    walk_at "d"
    refine S.forZ (a := a) (ns := xs) (fun i σ f => ∃ y, σ = [some (.ref a), some (.int (cont (xs.take i) : Int)), y] ∧ f = []) ?_ ?_ ?_ ?_
    · walk_at "w"
      exact ⟨rfl, by walk_at "rl", none, rfl, rfl⟩
    · rintro i σ f ⟨y, rfl, rfl⟩
      walk_at "rl"
    · rintro i σ f hi ⟨y, rfl, rfl⟩
      walk_at "d"
      walk_at "w"
      refine WC__law_greatest ?_
      walk_at "d"
      rw [Int.natAbs_natCast, ← cont_snoc, ← take_succ_getD hi]
      walk_at "lp"
      exact ⟨_, rfl, rfl⟩
    · rintro σ f ⟨y, rfl, rfl⟩
      rw [List.take_length]
      walk_at "w"
      exact NR.sub q (by walk_at "sub")

end

section
variable {P : Program} {w : World} {K : PySem.W.Frag} {mg : Str → Option Value} {base : Heap}
def sp__law_simple : Sp := fun vs H Q _ => ∃ (a : Addr) (xs : List Int), vs = [.ref a] ∧ H a = some (.lst (zV xs)) ∧ xs.length ≤ 90000 ∧ Tr xs ∧ Bd 9000 (sgc xs) ∧ ∀ p, NR Q (.ref p) H [(p, .lst (zV (simp' xs)))]
theorem WC__law_simple {H0 : Hp} {fs : Fs} {Φ : CV} {a : Addr} {xs : List Int} (h : Rx H0 fs a (.lst (zV xs))) (hl : xs.length ≤ 90000) (ht : Tr xs) (hb : Bd 9000 (sgc xs)) (q : ∀ p, Φ (.ref p) ((p, .lst (zV (simp' xs))) :: fs)) : WC sp__law_simple [.ref a] H0 fs Φ :=
  fun H k Q E c => ⟨a, xs, rfl, h H k, hl, ht, hb, fun p H' k' => c _ _ _ (k.app k') (q p)⟩
theorem ok__law_simple (T : Txt P K mg base) : FnOk P w K mg base CX0 43 T.a__law_simple T.d__law_simple ["_law_row_here"] sp__law_simple := by
  refine T.F__law_simple.ok sc__law_simple (fun vs H Q E h => ?_) (fun cdv A outer s H vs Q E hr h => ?_)
  · obtain ⟨a, xs, rfl, _⟩ := h; rfl
  · obtain ⟨a, xs, rfl, hA, hl, hc, hb, q⟩ := h
    refine ⟨_, (pss_cons (ps_set (i := 1) sc__law_simple.nd rfl (Or.inr rfl) (pe_call (ok__law_content T) (hr.mono (by decide)) (by rfl) T.m__law_content T.F__law_content.kp T.b__law_content .nil pass0 (pa_cons (pv 0) pa_nil)))
      (pss_cut (ps_if (PW.pt (pw_and (pt_cmpR (op_neD hr.units) (pv 0) (pe_lst pa_nil) (nomark _)) (pw_and1 (pt_cmpR op_lt (pe_ix ix_list (pv 0) (pe_un un_neg pe_int) (fun _ _ => rfl)) pe_int (nomark _))))) (pss_one (ps_set (i := 1) sc__law_simple.nd rfl (Or.inr rfl) (pe_un un_neg (pv 1)))) pss_nil)
      (pss_one (ps_ret (pe_lc (own := [("_law_number_here", 2)]) (g := gName 2) (tt := tYes) rfl sc__law_simple.nd (pi_list (pv 0)) (blkOk_by (own := [("_law_number_here", 2)]) (N := ["_law_row_here", "_law_by", "_law_number_here"]) (sc := defScope s__law_simple) (by decide +kernel)) (fun _ _ _ _ _ => pg_name (i := 2) sc__law_simple.nd rfl (Or.inl rfl)) (fun _ _ _ _ _ => pts_nil) (fun _ _ _ _ _ => (pe_op op_fdivG (pv 2) (pv 1)))))))), ?_⟩
    refine N.go (σ := [some (.ref a), none, none]) ?_
    walk_at "w"
    refine WC__law_content (xs := xs) (by walk_at "rx") ?_
    walk_at "d"
    refine S.cut (fun σ f => σ = [some (.ref a), some (.int (sgc xs)), none] ∧ f = []) ?_ ?_
    · walk_at "w"
      intro z
      walk_at "w"
      walk_at "if"
      · rename_i hne
        have hlast : atI (zV xs) (-1) = some (.int (xs.getLast hne)) := atI_lastI hne
        have hg : xs.getLast?.getD 0 = xs.getLast hne := by rw [List.getLast?_eq_some_getLast hne]; rfl
        walk_at "w"
        refine RW.ixL (by walk_at "rl") hlast ?_
        walk_at "w"
        walk_at "if"
        · rename_i hneg
          have e : sgc xs = -(cont xs : Int) := by unfold sgc; rw [hg, if_pos hneg]
          walk_at "w"
          rw [e]
          exact Un.sub [] (by walk_at "sub") ⟨rfl, rfl⟩
        · rename_i hneg
          have e : sgc xs = (cont xs : Int) := by unfold sgc; rw [hg, if_neg hneg]
          walk_at "w"
          rw [e]
          exact Un.sub [] (by walk_at "sub") ⟨rfl, rfl⟩
      · rename_i hne
        have e0 : xs = [] := by simpa using hne
        subst e0
        walk_at "w"
        exact Un.sub [] (by walk_at "sub") ⟨rfl, rfl⟩
    rintro σ f ⟨rfl, rfl⟩
    walk_at "w"
    refine W.lcZz (ns := xs) (fun x => x.fdiv (sgc xs)) ?_
    walk_at "w"
    refine ⟨by walk_at "rl", by omega, fun _ => rfl, fun x D acc hx => ?_, fun D => ?_⟩
    · walk_at "d"
      have hcx : CDivG x (sgc xs) := CDivG.bits (sgc_ne hc (List.ne_nil_of_mem hx)) hb (by omega)
      walk_at "w"
      exact ⟨rfl, by walk_at "sub"⟩
    · walk_at "w"
      exact NR.sub (q D) (by walk_at "sub")

end

section
variable {P : Program} {w : World} {K : PySem.W.Frag} {mg : Str → Option Value} {base : Heap}
def sp__law_divides : Sp := fun vs H Q _ => ∃ (b a : Addr) (ys xs : List Int) (A B : Nat), vs = [.ref b, .ref a] ∧ H a = some (.lst (zV xs)) ∧ H b = some (.lst (zV ys)) ∧ (xs.length ≤ 40000 ∧ ys.length ≤ 40000) ∧ Tr ys ∧ ys ≠ [] ∧ BdL A xs ∧ BdL B ys ∧ (B ≤ 9000) ∧ A + (xs.length + 2 - ys.length) * (B + 1) + B + 1 ≤ 134217728 ∧
  (∃ q, Whole xs ys q) ∧ NR Q (.bl true) H []
theorem WC__law_divides {H0 : Hp} {fs : Fs} {Φ : CV} {a b : Addr} {xs ys : List Int} (A B : Nat) (h : Rx H0 fs a (.lst (zV xs))) (h2 : Rx H0 fs b (.lst (zV ys))) (hl : xs.length ≤ 40000 ∧ ys.length ≤ 40000) (ht : Tr ys) (hne : ys ≠ []) (hA : BdL A xs) (hB : BdL B ys) (hB9 : B ≤ 9000) (hAB : A + (xs.length + 2 - ys.length) * (B + 1) + B + 1 ≤ 134217728)
    (hw : ∃ q, Whole xs ys q) (c : Φ (.bl true) fs) : WC sp__law_divides [.ref b, .ref a] H0 fs Φ :=
  fun H k Q E cc => ⟨b, a, ys, xs, A, B, rfl, h H k, h2 H k, hl, ht, hne, hA, hB, hB9, hAB, hw, fun H' k' => cc _ _ _ (k.app k') c⟩
theorem ok__law_divides (T : Txt P K mg base) : FnOk P w K mg base CX0 42 T.a__law_divides T.d__law_divides ["_law_by", "_law_row_here"] sp__law_divides := by
  refine T.F__law_divides.ok sc__law_divides (fun vs H Q E h => ?_) (fun cdv A outer s H vs Q E hr h => ?_)
  · obtain ⟨b, a, ys, xs, A, B, rfl, _⟩ := h; rfl
  · obtain ⟨b, a, ys, xs, A, B, rfl, hXa, hXb, hl, ht, hne, hA, hB, hB9, hAB, ⟨qw, hw⟩, c⟩ := h
    refine ⟨_, (pss_cons (ps_set (i := 2) sc__law_divides.nd rfl (Or.inl rfl) (pe_callTy cListOf (by rfl) T.z_list (by decide +kernel) (pa_cons (pv 1) pa_nil)))
      (pss_cons (ps_for PassesOwn.never rfl (pi_range1 rfl T.z_range (pa_cons (pe_callB (cMax2 rfl) (by rfl) T.z_max (by decide +kernel) (pa_cons pe_int (pa_cons (pe_op op_add (pe_op op_sub (pe_callB cLen (by rfl) T.z_len PySem.boot_len (pa_cons (pv 1) pa_nil)) (pe_callB cLen (by rfl) T.z_len PySem.boot_len (pa_cons (pv 0) pa_nil))) pe_int) pa_nil))) pa_nil)) (pg_name (i := 3) sc__law_divides.nd rfl (Or.inl rfl)) (pss_cons (ps_set (i := 4) sc__law_divides.nd rfl (Or.inl rfl) (pe_op op_sub (pe_op op_sub (pe_callB cLen (by rfl) T.z_len PySem.boot_len (pa_cons (pv 1) pa_nil)) (pe_callB cLen (by rfl) T.z_len PySem.boot_len (pa_cons (pv 0) pa_nil))) (pv 3)))
      (pss_cons (ps_set (i := 5) sc__law_divides.nd rfl (Or.inl rfl) (pe_ix ix_list (pv 2) (pe_op op_sub (pe_op op_add (pv 4) (pe_callB cLen (by rfl) T.z_len PySem.boot_len (pa_cons (pv 0) pa_nil))) pe_int) (fun _ _ => rfl)))
      (pss_cons (ps_if (pt_cmpR op_ne (pe_op op_modN (pv 5) (pe_ix ix_list (pv 0) (pe_un un_neg pe_int) (fun _ _ => rfl))) pe_int (nomark _)) (pss_one (ps_ret pe_bl)) pss_nil)
      (pss_one (ps_for PassesOwn.never rfl (pi_range1 rfl T.z_range (pa_cons (pe_callB cLen (by rfl) T.z_len PySem.boot_len (pa_cons (pv 0) pa_nil)) pa_nil)) (pg_name (i := 6) sc__law_divides.nd rfl (Or.inl rfl)) (pss_one (ps_asg (pe_op op_sub (pe_ix ix_list (pv 2) (pe_op op_add (pv 4) (pv 6)) (fun _ _ => rfl)) (pe_op op_mulG (pe_op op_fdivG (pv 5) (pe_ix ix_list (pv 0) (pe_un un_neg pe_int) (fun _ _ => rfl))) (pe_ix ix_list (pv 0) (pv 6) (fun _ _ => rfl)))) (pg_sub (pv 2) (pe_op op_add (pv 4) (pv 6)) set_list)))))))))
      (pss_one (ps_ret (pe_cmpR (op_eqD hr.units) (pe_call (ok__law_trim T) (hr.mono (by decide)) (by rfl) T.m__law_trim T.F__law_trim.kp T.b__law_trim .nil pass0 (pa_cons (pv 2) pa_nil)) (pe_lst pa_nil) (nomark _)))))), ?_⟩
    refine N.go (σ := [some (.ref b), some (.ref a), none, none, none, none, none]) ?_
    have hy : 0 < ys.length := List.length_pos_iff.mpr hne
    obtain ⟨n, hn⟩ : ∃ n, n = xs.length + 1 - ys.length := ⟨_, rfl⟩
    have hlcd : S ys (ys.length - 1) = ys.getLast hne := by
      rw [S_at, List.getD_eq_getElem?_getD, List.getElem?_eq_getElem (by omega), List.getLast_eq_getElem]; rfl
    have hlc0 : S ys (ys.length - 1) ≠ 0 := S_top ht hne
    have hlast : atI (zV ys) (-1) = some (.int (S ys (ys.length - 1))) := by rw [hlcd]; exact atI_lastI hne
    have hlcb : Bd B (S ys (ys.length - 1)) := hB.at _
    walk_at "w"
    intro pr
    walk_at "d"
    walk_at "w"
    refine S.forR (n := (n : Int)) (fun t σ f => ∃ fl rl y4 y5 y6 y7, σ = [some (.ref b), some (.ref a), some (.ref pr), y4, y5, y6, y7] ∧ f = [(pr, .lst (zV rl))] ∧ t ≤ n ∧ QI xs ys A B n t fl rl) ?_ ?_ ?_
    · walk_at "w"
      have en : max 0 ((xs.length : Int) - (ys.length : Int) + 1) = (n : Int) := by omega
      rw [en]
      exact ⟨rfl, by omega, by omega, _, xs, none, none, none, none, rfl, rfl, Nat.zero_le _, QI.start hn hA⟩
    · rintro t σ f ht' ⟨fl, rl, y4, y5, y6, y7, rfl, rfl, _, hD⟩
      have htn : t < n := by omega
      have hfl := hD.fl
      have hrl := hD.rl
      have htB : t * (B + 1) ≤ n * (B + 1) := Nat.mul_le_mul_right _ (by omega)
      rw [show xs.length + 2 - ys.length = n + 1 by omega, Nat.succ_mul] at hAB
      walk_at "d"
      walk_at "w"
      have eP : (xs.length : Int) - (ys.length : Int) - (t : Int) = ((n - 1 - t : Nat) : Int) := by omega
      rw [eP]
      walk_at "d"
      walk_at "w"
      have eT : gat rl (((n - 1 - t : Nat) : Int) + (ys.length : Int) - 1) = S rl (n - 1 - t + ys.length - 1) := by
        rw [show ((n - 1 - t : Nat) : Int) + (ys.length : Int) - 1 = ((n - 1 - t + ys.length - 1 : Nat) : Int) by omega, gat_nat]; rfl
      rw [eT]
      walk_at "d"
      walk_at "w"
      refine RW.ixL (by walk_at "rl") hlast ?_
      walk_at "w"
      by_cases hdv : S ys (ys.length - 1) ∣ S rl (n - 1 - t + ys.length - 1)
      · have hm0 : (S rl (n - 1 - t + ys.length - 1)).fmod (S ys (ys.length - 1)) = 0 := Int.fmod_eq_zero_of_dvd hdv
        rw [decide_eq_true hm0]
        have hcd : CDivG (S rl (n - 1 - t + ys.length - 1)) (S ys (ys.length - 1)) := CDivG.bits hlc0 hlcb hB9
        have hv : (S rl (n - 1 - t + ys.length - 1)).fdiv (S ys (ys.length - 1)) * S ys (ys.length - 1) = S rl (n - 1 - t + ys.length - 1) := by
          rw [Int.mul_comm]; exact fdiv_of_dvd hlc0 hdv
        have htb : (S rl (n - 1 - t + ys.length - 1)).natAbs < 2 ^ (A + t * (B + 1)) := hD.rb.at _
        walk_at "w"
        obtain ⟨v, hvd⟩ : ∃ v, v = (S rl (n - 1 - t + ys.length - 1)).fdiv (S ys (ys.length - 1)) := ⟨_, rfl⟩
        rw [← hvd] at hv
        have hvb : Bd (A + t * (B + 1)) v := by
          refine Nat.lt_of_le_of_lt ?_ htb
          rw [← hv, Int.natAbs_mul]
          exact Nat.le_mul_of_pos_right _ (Int.natAbs_pos.mpr hlc0)
        have hD' := hD.step htn hn hy hB hlc0 hv
        walk_at "d"
        refine S.forR (n := (ys.length : Int)) (fun k σ f => ∃ y, σ = [some (.ref b), some (.ref a), some (.ref pr), some (.int (t : Int)), some (.int ((n - 1 - t : Nat) : Int)), some (.int (S rl (n - 1 - t + ys.length - 1))), y] ∧ f = [(pr, .lst (zV (lp (sbIn v ys (n - 1 - t)) k rl)))]) ?_ ?_ ?_
        · walk_at "w"
          exact ⟨rfl, by omega, by omega, y7, rfl, rfl⟩
        · rintro k σ f hk ⟨y, rfl, rfl⟩
          walk_at "d"
          have hlen : (lp (sbIn v ys (n - 1 - t)) k rl).length = xs.length := by
            rw [sbIn_eq, lp_len (fun i a => tmIn_len _ _ _ _ _)]; exact hrl
          have hok : IntMulOk v (gat ys (k : Int)) := mulB hvb (hB.gat _) (by omega)
          refine S.setL ?_
          walk_at "w"
          refine RW.ixL (by walk_at "rl") hlast ?_
          walk_at "w"
          rw [← hvd]
          walk_at "w"
          walk_at "set1"
          · rw [zV_length, hlen]; omega
          have ei : (((n - 1 - t : Nat) : Int) + (k : Int)) = ((n - 1 - t + k : Nat) : Int) := by omega
          have e1 : (((n - 1 - t : Nat) : Int) + (k : Int)).toNat = n - 1 - t + k := by omega
          rw [e1, zV_set, ei, gat_nat, gat_nat]
          walk_at "d"
          walk_at "lp"
          exact ⟨_, rfl, rfl⟩
        · rintro σ f ⟨y, rfl, rfl⟩
          have ek : ((ys.length : Int)).toNat = ys.length := by simp
          rw [ek]
          walk_at "lp"
          exact ⟨_, _, _, _, _, _, rfl, rfl, htn, hD'⟩
      · exact absurd hw (hD.no htn ht hne hdv _)
    · rintro σ f ⟨fl, rl, y4, y5, y6, y7, rfl, rfl, _, hD⟩
      have ek : ((n : Int)).toNat = n := by simp
      rw [ek] at hD
      have hfl := hD.fl
      have hrl := hD.rl
      walk_at "w"
      refine WC__law_trim (xs := rl) (by walk_at "rx") (by omega) fun p2 => ?_
      walk_at "w"
      intro z
      walk_at "w"
      by_cases hr0 : trim rl = []
      · rw [decide_eq_true hr0]
        exact NR.sub c (by walk_at "sub")
      · exact absurd hw (hD.nowhole ht hne hr0 _)

end

section
variable {P : Program} {w : World} {K : PySem.W.Frag} {mg : Str → Option Value} {base : Heap}
def sp__law_refused : Sp := fun vs H Q _ => ∃ (b : Bool), vs = [.bl b] ∧ NR Q (.bl true) H []
theorem WC__law_refused {H0 : Hp} {fs : Fs} {Φ : CV} {b : Bool} (q : Φ (.bl true) fs) : WC sp__law_refused [.bl b] H0 fs Φ := fun H k Q E c => ⟨b, rfl, fun H' k' => c _ _ _ (k.app k') q⟩
theorem ok__law_refused (T : Txt P K mg base) : FnOk P w K mg base CX0 47 T.a__law_refused T.d__law_refused ["_law_base"] sp__law_refused := by
  refine T.F__law_refused.ok sc__law_refused (fun vs H Q E h => ?_) (fun cdv A outer s H vs Q E hr h => ?_)
  · obtain ⟨b, rfl, _⟩ := h; rfl
  · obtain ⟨b, rfl, q⟩ := h
    refine ⟨_, (pss_cons (ps_try_onlyK (K := K) (Wout := (fun _ _ _ _ => False)) rfl rfl rfl ⟨by rfl, by decide, .inl T.e_NoMeet.g⟩ takes0
        (fun W0 pn0 xe0 tk0 po0 => (pss_one (ps_if (pt_val (pv 0)) (pss_one (ps_try_asK (K := K) (i := 1) (Wout := W0) rfl rfl rfl sc__law_refused.nd rfl rfl ⟨by rfl, by decide, .inl T.e_PolyError.g⟩ tk0
        (fun W1 pn1 xe1 tk1 po1 => (pss_one (ps_expr (pe_callS (okX_meet T) (hr.mono (by decide)) (by rfl) T.m_meet T.F_meet.kp T.b_meet (fun σ => passAt tk1 σ) (pa_cons (pe_lst pa_nil) (pa_cons (pe_lst pa_nil) pa_nil))))))
        (fun a oe cls d pn hz hf => (pss_one (ps_ret (pe_callB (call_isVK (K := K) rfl hz hf) (by rfl) T.z_isinstance (by decide +kernel) (pa_cons (pv 1) (pa_cons (pe_bltn (v := .ty "ValueError") (by rfl) T.z_ValueError (by decide +kernel) rfl) pa_nil)))))))) (pss_one (ps_expr (pe_callS (okX_meet T) (hr.mono (by decide)) (by rfl) T.m_meet T.F_meet.kp T.b_meet (fun σ => passAt tk0 σ) (pa_cons (pe_lst pa_nil) (pa_cons (pe_lst pa_nil) pa_nil))))))))
        (fun a oe cls d pn hz hf => (pss_one (ps_ret (pe_not (pv 0))))))
      (pss_one (ps_ret pe_bl))), ?_⟩
    refine N.go (σ := [some (.bl b), none]) ?_
    refine S.seq ?_
    cases b with
    | true =>
      walk_at "w"
      refine W.callX ?_
      walk_at "w"
      intro z
      walk_at "w"
      intro z2
      walk_at "w"
      refine WC_meetX (by walk_at "rx") (by walk_at "rx") ?_
      refine NX.as T.u_NoMeet_PolyError fun e => ?_
      walk_at "d"
      walk_at "w"
      refine RC.isV T.e_NoMeet.i T.e_NoMeet.v ?_
      walk_at "fin"
    | false =>
      walk_at "w"
      refine W.callX ?_
      walk_at "w"
      intro z
      walk_at "w"
      intro z2
      walk_at "w"
      refine WC_meetX (by walk_at "rx") (by walk_at "rx") ?_
      refine NX.only T.u_NoMeet_NoMeet fun e => ?_
      walk_at "w"
      walk_at "fin"

end

section
variable {P : Program} {w : World} {K : PySem.W.Frag} {mg : Str → Option Value} {base : Heap}
def sp__law_fits : Sp := fun vs H Q _ => ∃ (p c e p1 p2 p3 p4 p5 : Addr) (A B x s t u v : List Int) (n : Int), vs = [.ref p, .ref c, .ref e] ∧ H p = some (.tup [.ref p1, .ref p2, .ref p3, .ref p4, .ref p5, .int n]) ∧ H p1 = some (.lst (zV x)) ∧ H p2 = some (.lst (zV s)) ∧ H p3 = some (.lst (zV t)) ∧ H p4 = some (.lst (zV u)) ∧ H p5 = some (.lst (zV v)) ∧ H c = some (.lst (zV A)) ∧ H e = some (.lst (zV B)) ∧
  Tr A ∧ Tr B ∧ Mt A B x s t u v n ∧ FtB A B x s t u v n ∧ (A.length ≤ 9000 ∧ B.length ≤ 9000 ∧ x.length ≤ 9000 ∧ s.length ≤ 9000 ∧ t.length ≤ 9000 ∧ u.length ≤ 9000 ∧ v.length ≤ 9000) ∧ NR Q (.bl true) H []
theorem WC__law_fits {H0 : Hp} {fs : Fs} {Φ : CV} {p c e p1 p2 p3 p4 p5 : Addr} {A B x s t u v : List Int} {n : Int} (h : Rx H0 fs p (.tup [.ref p1, .ref p2, .ref p3, .ref p4, .ref p5, .int n])) (h1 : Rx H0 fs p1 (.lst (zV x))) (h2 : Rx H0 fs p2 (.lst (zV s))) (h3 : Rx H0 fs p3 (.lst (zV t))) (h4 : Rx H0 fs p4 (.lst (zV u))) (h5 : Rx H0 fs p5 (.lst (zV v))) (hc : Rx H0 fs c (.lst (zV A))) (he : Rx H0 fs e (.lst (zV B)))
    (hA : Tr A) (hB : Tr B) (hm : Mt A B x s t u v n) (hf : FtB A B x s t u v n) (hl : A.length ≤ 9000 ∧ B.length ≤ 9000 ∧ x.length ≤ 9000 ∧ s.length ≤ 9000 ∧ t.length ≤ 9000 ∧ u.length ≤ 9000 ∧ v.length ≤ 9000) (c' : Φ (.bl true) fs) : WC sp__law_fits [.ref p, .ref c, .ref e] H0 fs Φ :=
  fun H k Q E cc => ⟨p, c, e, p1, p2, p3, p4, p5, A, B, x, s, t, u, v, n, rfl, h H k, h1 H k, h2 H k, h3 H k, h4 H k, h5 H k, hc H k, he H k, hA, hB, hm, hf, hl, fun H' k' => cc _ _ _ (k.app k') c'⟩
theorem ok__law_fits (T : Txt P K mg base) : FnOk P w K mg base CX0 44 T.a__law_fits T.d__law_fits ["_law_found", "_law_ones", "_law_others"] sp__law_fits := by
  refine T.F__law_fits.ok sc__law_fits (fun vs H Q E h => ?_) (fun cdv A outer s H vs Q E hr h => ?_)
  · obtain ⟨p, c, e, p1, p2, p3, p4, p5, A, B, x, s, t, u, v, n, rfl, _⟩ := h; rfl
  · obtain ⟨p, c, e, p1, p2, p3, p4, p5, A, B, x, s, t, u, v, n, rfl, hp, h1, h2, h3, h4, h5, hc, he, hA, hB, hm, hf, hl, cc⟩ := h
    refine ⟨_, (pss_cons (ps_if (PW.pt (pw_or (pt_not (pt_val (pe_callB call_isi (by rfl) T.z_isinstance (by decide +kernel) (pa_cons (pv 0) (pa_cons (pe_bltn (v := .ty "tuple") (by rfl) T.z_tuple (by decide +kernel) rfl) pa_nil))))) (pw_or1 (pt_cmpR op_ne (pe_callB cLen (by rfl) T.z_len PySem.boot_len (pa_cons (pv 0) pa_nil)) pe_int (nomark _))))) (pss_one (ps_ret pe_bl)) pss_nil)
      (pss_cons (ps_for PassesOwn.never rfl (pi_range1 rfl T.z_range (pa_cons pe_int pa_nil)) (pg_name (i := 3) sc__law_fits.nd rfl (Or.inl rfl)) (pss_one (ps_if (pt_not (pt_val (pe_call (ok__law_row T) (hr.mono (by decide)) (by rfl) T.m__law_row T.F__law_row.kp T.b__law_row .nil pass0 (pa_cons (pe_ix ix_tup (pv 0) (pv 3) (fun _ _ => rfl)) pa_nil)))) (pss_one (ps_ret pe_bl)) pss_nil)))
      (pss_cons (ps_if (PW.pt (pw_or (pt_not (pt_val (pe_call (ok__law_whole T) (hr.mono (by decide)) (by rfl) T.m__law_whole T.F__law_whole.kp T.b__law_whole .nil pass0 (pa_cons (pe_ix ix_tup (pv 0) pe_int (fun _ _ => rfl)) pa_nil)))) (pw_or1 (pt_cmpR op_lt (pe_ix ix_tup (pv 0) pe_int (fun _ _ => rfl)) pe_int (nomark _))))) (pss_one (ps_ret pe_bl)) pss_nil)
      (pss_cons (ps_if (PW.pt (pw_or (pt_cmpR (op_eqD hr.units) (pe_ix ix_tup (pv 0) pe_int (fun _ _ => rfl)) (pe_lst pa_nil) (nomark _)) (pw_or1 (pt_cmpR (op_neD hr.units) (pe_ix ix_tup (pv 0) pe_int (fun _ _ => rfl)) (pe_call (ok__law_simple T) (hr.mono (by decide)) (by rfl) T.m__law_simple T.F__law_simple.kp T.b__law_simple .nil pass0 (pa_cons (pe_ix ix_tup (pv 0) pe_int (fun _ _ => rfl)) pa_nil)) (nomark _))))) (pss_one (ps_ret pe_bl)) pss_nil)
      (pss_cons (ps_if (PW.pt (pw_or (pt_cmpR (op_neD hr.units) (pe_call (ok__law_times T) (hr.mono (by decide)) (by rfl) T.m__law_times T.F__law_times.kp T.b__law_times .nil pass0 (pa_cons (pe_ix ix_tup (pv 0) pe_int (fun _ _ => rfl)) (pa_cons (pe_ix ix_tup (pv 0) pe_int (fun _ _ => rfl)) pa_nil))) (pv 1) (nomark _)) (pw_or1 (pt_cmpR (op_neD hr.units) (pe_call (ok__law_times T) (hr.mono (by decide)) (by rfl) T.m__law_times T.F__law_times.kp T.b__law_times .nil pass0 (pa_cons (pe_ix ix_tup (pv 0) pe_int (fun _ _ => rfl)) (pa_cons (pe_ix ix_tup (pv 0) pe_int (fun _ _ => rfl)) pa_nil))) (pv 2) (nomark _))))) (pss_one (ps_ret pe_bl)) pss_nil)
      (pss_cons (ps_set (i := 4) sc__law_fits.nd rfl (Or.inl rfl) (pe_call (ok__law_plus T) (hr.mono (by decide)) (by rfl) T.m__law_plus T.F__law_plus.kp T.b__law_plus .nil pass0 (pa_cons (pe_call (ok__law_times T) (hr.mono (by decide)) (by rfl) T.m__law_times T.F__law_times.kp T.b__law_times .nil pass0 (pa_cons (pe_ix ix_tup (pv 0) pe_int (fun _ _ => rfl)) (pa_cons (pv 1) pa_nil))) (pa_cons (pe_call (ok__law_times T) (hr.mono (by decide)) (by rfl) T.m__law_times T.F__law_times.kp T.b__law_times .nil pass0 (pa_cons (pe_ix ix_tup (pv 0) pe_int (fun _ _ => rfl)) (pa_cons (pv 2) pa_nil))) pa_nil))))
      (pss_one (ps_ret (pe_cmpR (op_eqD hr.units) (pv 4) (pe_lc (own := [("_law_number_here", 5)]) (g := gName 5) (tt := tYes) rfl sc__law_fits.nd (pi_list (pe_ix ix_tup (pv 0) pe_int (fun _ _ => rfl))) (blkOk_by (own := [("_law_number_here", 5)]) (N := ["_law_found", "_law_ones", "_law_others", "_law_k", "_law_both", "_law_number_here"]) (sc := defScope s__law_fits) (by decide +kernel)) (fun _ _ _ _ _ => pg_name (i := 5) sc__law_fits.nd rfl (Or.inl rfl)) (fun _ _ _ _ _ => pts_nil) (fun _ _ _ _ _ => (pe_op op_mulG (pe_ix (ix_tupK (K := K) rfl) (pv 0) pe_int (fun _ _ => rfl)) (pv 5)))) (nomark _)))))))))), ?_⟩
    refine N.go (σ := [some (.ref p), some (.ref c), some (.ref e), none, none, none]) ?_
    have hrow : ∀ i : Nat, i < 5 → ∃ pp xs, atI [V.ref p1, V.ref p2, V.ref p3, V.ref p4, V.ref p5, V.int n] (i : Int) = some (.ref pp) ∧ H pp = some (.lst (zV xs)) ∧ Tr xs := fun i hi => by
      have : i = 0 ∨ i = 1 ∨ i = 2 ∨ i = 3 ∨ i = 4 := by omega
      rcases this with rfl | rfl | rfl | rfl | rfl
      · exact ⟨p1, x, rfl, h1, hm.cb.xt⟩
      · exact ⟨p2, s, rfl, h2, hm.w1.1⟩
      · exact ⟨p3, t, rfl, h3, hm.w2.1⟩
      · exact ⟨p4, u, rfl, h4, hm.cb.ut⟩
      · exact ⟨p5, v, rfl, h5, hm.cb.vt⟩
    have hn1 := hm.cb.n1
    obtain ⟨hct, hla⟩ := hm.cb.sm hm.ne
    walk_at "w"
    refine S.forR (n := 5) (fun k σ f => ∃ y, σ = [some (.ref p), some (.ref c), some (.ref e), y, none, none] ∧ f = []) ?_ ?_ ?_
    · walk_at "w"
      exact ⟨rfl, by omega, by omega, none, rfl, rfl⟩
    · rintro i σ f hi ⟨y, rfl, rfl⟩
      obtain ⟨pp, xs, e1, e2, e3⟩ := hrow i (by omega)
      walk_at "d"
      walk_at "w"
      refine RW.ixT (by walk_at "rt") e1 ?_
      walk_at "w"
      refine WC__law_row (xs := xs) (by walk_at "rx") e3 ?_
      walk_at "w"
      walk_at "lp"
      exact ⟨_, rfl, rfl⟩
    rintro σ f ⟨y, rfl, rfl⟩
    walk_at "w"
    refine WC__law_whole ?_
    walk_at "w"
    rw [decide_eq_false (by omega : ¬ n < 1)]
    walk_at "w"
    intro z
    walk_at "w"
    rw [decide_eq_false hm.ne]
    walk_at "w"
    refine WC__law_simple (xs := x) (by walk_at "rx") (by omega) hm.cb.xt (by rw [sgc_self hct hla]; exact Bd.mono (a := 1) (by unfold Bd; decide) (by omega)) fun q1 => ?_
    rw [simp_self hct hla]
    walk_at "w"
    rw [decide_eq_true (rfl : x = x)]
    walk_at "w"
    obtain ⟨g1, g2, f1, f2, f3⟩ := hf.b1
    refine WC__law_times (xs := x) (ys := s) g1 g2 (by walk_at "rx") (by walk_at "rx") ⟨by omega, by omega⟩ f1 f2 f3 fun t1 => ?_
    rw [hm.first hA]
    walk_at "w"
    rw [decide_eq_true (rfl : A = A)]
    walk_at "w"
    obtain ⟨g1, g2, f1, f2, f3⟩ := hf.b2
    refine WC__law_times (xs := x) (ys := t) g1 g2 (by walk_at "rx") (by walk_at "rx") ⟨by omega, by omega⟩ f1 f2 f3 fun t2 => ?_
    rw [hm.second hB]
    walk_at "w"
    rw [decide_eq_true (rfl : B = B)]
    walk_at "w"
    obtain ⟨g1, g2, f1, f2, f3⟩ := hf.b3
    refine WC__law_times (xs := u) (ys := A) g1 g2 (by walk_at "rx") (by walk_at "rx") ⟨by omega, by omega⟩ f1 f2 f3 fun t3 => ?_
    walk_at "w"
    obtain ⟨g1, g2, f1, f2, f3⟩ := hf.b4
    refine WC__law_times (xs := v) (ys := B) g1 g2 (by walk_at "rx") (by walk_at "rx") ⟨by omega, by omega⟩ f1 f2 f3 fun t4 => ?_
    walk_at "w"
    have tl1 := tm_len u A
    have tl2 := tm_len v B
    refine WC__law_plus (xs := tm u A) (ys := tm v B) (by walk_at "rx") (by walk_at "rx") ⟨by omega, by omega⟩ fun t5 => ?_
    rw [hm.both]
    walk_at "d"
    walk_at "w"
    obtain ⟨g1, g2, f1, f2, f3⟩ := hf.b5
    refine W.lcZz (ns := x) (fun y => n * y) ?_
    walk_at "w"
    refine ⟨by walk_at "rl", by omega, fun _ => rfl, fun y D acc hx => ?_, fun D => ?_⟩
    · walk_at "d"
      have hok : IntMulOk n y := mulB f1 (f2 y hx) f3
      walk_at "w"
      exact ⟨rfl, by walk_at "sub"⟩
    walk_at "w"
    rw [decide_eq_true (rfl : (x.map fun y => n * y) = (x.map fun y => n * y))]
    exact NR.sub cc (by walk_at "sub")

end

section
variable {P : Program} {w : World} {K : PySem.W.Frag} {mg : Str → Option Value} {base : Heap}
/-- what is built -/
structure Bu (cm A B : List Int) : Prop where
  tc : Tr cm
  ta : Tr A
  tb : Tr B
  pa : PD (S cm) (S A)
  pb : PD (S cm) (S B)
  cl : cm.length ≤ 13
  cb : BdL 299 cm
  sz : (A.length ≤ 13 ∧ B.length ≤ 13 ∧ BdL 177 A ∧ BdL 177 B) ∨ (A.length ≤ 7 ∧ B.length ≤ 7 ∧ BdL 299 A ∧ BdL 299 B)
theorem PD.tm (xs ys : List Int) : PD (S xs) (S (tm xs ys)) := by
  rw [S_tm]
  exact (PD.refl _).mul (Fin.S ys)
theorem drawn_bd3 (ns : List Int) (place size many : Int) : BdL 133 (drawn ns place size many) := by
  refine BdL.trim fun x hx => ?_
  split at hx
  · obtain ⟨k, _, rfl⟩ := List.mem_map.mp hx
    exact num__law_number_bd3 _
  · obtain ⟨k, _, rfl⟩ := List.mem_map.mp hx
    exact num__law_number_bd3 _
/-- small ones, in a row -/
def smalls (ns : List Int) (place n : Int) : List Int := (List.range n.toNat).map fun (k : Nat) => small__law_small (gat ns (place + (k : Int)))
theorem smalls_bd (ns : List Int) (place n : Int) : BdL 34 (trim (smalls ns place n)) := by
  refine BdL.trim fun x hx => ?_
  obtain ⟨k, _, rfl⟩ := List.mem_map.mp hx
  exact small__law_small_bd _
theorem smalls_len (ns : List Int) (place n : Int) : (trim (smalls ns place n)).length ≤ n.toNat := by
  refine Nat.le_trans (trim_length_le _) ?_
  unfold smalls
  simp
theorem five_at {i : Int} (h0 : 0 ≤ i) (h5 : i < 5) : ∃ z, atI [V.int 1, V.int 2, V.int 3, V.int 2, V.int 0] i = some (.int z) ∧ 0 ≤ z ∧ z ≤ 3 := by
  have : i = 0 ∨ i = 1 ∨ i = 2 ∨ i = 3 ∨ i = 4 := by omega
  rcases this with rfl | rfl | rfl | rfl | rfl
  · exact ⟨1, rfl, by omega, by omega⟩
  · exact ⟨2, rfl, by omega, by omega⟩
  · exact ⟨3, rfl, by omega, by omega⟩
  · exact ⟨2, rfl, by omega, by omega⟩
  · exact ⟨0, rfl, by omega, by omega⟩
theorem Bu.of {cm w1 w2 : List Int} (hc : Tr cm) (h : (cm.length ≤ 3 ∧ BdL 133 cm) ∨ (cm.length ≤ 9 ∧ BdL 34 cm)) (h1 : w1.length ≤ 5) (h2 : w2.length ≤ 5) (b1 : BdL 133 w1) (b2 : BdL 133 w2) : Bu cm (tm cm w1) (tm cm w2) := by
  have l1 := tm_len cm w1
  have l2 := tm_len cm w2
  refine ⟨hc, tm_tr _ _, tm_tr _ _, PD.tm _ _, PD.tm _ _, by omega, by rcases h with h | h <;> exact h.2.mono (by omega), ?_⟩
  rcases h with ⟨h, hb⟩ | ⟨h, hb⟩
  · exact .inr ⟨by omega, by omega, (tm_bd (c := 2) hb b1 (by omega)).mono (by omega), (tm_bd (c := 2) hb b2 (by omega)).mono (by omega)⟩
  · exact .inl ⟨by omega, by omega, (tm_bd (c := 4) hb b1 (by omega)).mono (by omega), (tm_bd (c := 4) hb b2 (by omega)).mono (by omega)⟩
theorem Bu.nilA {cm A B : List Int} (h : Bu cm A B) : Bu cm [] B := ⟨h.tc, tr_nil, h.tb, by rw [S_nil]; exact PD.zero _, h.pb, h.cl, h.cb, h.sz.elim (fun ⟨a, b, c, d⟩ => .inl ⟨by simp, b, BdL.nil, d⟩) (fun ⟨a, b, c, d⟩ => .inr ⟨by simp, b, BdL.nil, d⟩)⟩
theorem Bu.nilB {cm A B : List Int} (h : Bu cm A B) : Bu cm A [] := ⟨h.tc, h.ta, tr_nil, h.pa, by rw [S_nil]; exact PD.zero _, h.cl, h.cb, h.sz.elim (fun ⟨a, b, c, d⟩ => .inl ⟨a, by simp, c, BdL.nil⟩) (fun ⟨a, b, c, d⟩ => .inr ⟨a, by simp, c, BdL.nil⟩)⟩
theorem Bu.both {cm A B : List Int} (h : Bu cm A B) : Bu A A A := ⟨h.ta, h.ta, h.ta, PD.refl _, PD.refl _, by rcases h.sz with h | h <;> omega, by rcases h.sz with ⟨_, _, h, _⟩ | ⟨_, _, h, _⟩ <;> exact h.mono (by omega), h.sz.elim (fun ⟨a, b, c, d⟩ => .inl ⟨a, a, c, c⟩) (fun ⟨a, b, c, d⟩ => .inr ⟨a, a, c, c⟩)⟩
theorem Bu.small {A B : List Int} (ha : Tr A) (hb : Tr B) (h1 : A.length ≤ 13) (h2 : B.length ≤ 13) (b1 : BdL 34 A) (b2 : BdL 34 B) : Bu [1] A B := by
  have one : ∀ xs : List Int, PD (S [1]) (S xs) := fun xs => by
    rw [S_one]
    have e : Ser.C 1 = (1 : Ser) := rfl
    refine ⟨_, S xs, Fin.S xs, ?_⟩
    rw [e]; grind
  exact ⟨tr_of_last (ys := []) (by decide), ha, hb, one _, one _, by simp, fun x hx => by rw [List.mem_singleton.mp hx]; exact Bd.mono (a := 1) (by unfold Bd; decide) (by omega), .inl ⟨h1, h2, b1.mono (by omega), b2.mono (by omega)⟩⟩
def sp__law_built (K : PySem.W.Frag) : Sp := fun vs H Q _ => ∃ (a : Addr) (ns : List Int), vs = [.ref a] ∧ SqL K H a (zV ns) ∧
  ∀ (cm A B : List Int) (pc po pt p : Addr) (f : Fs), Bu cm A B → (p, .tup [.ref pc, .ref po, .ref pt]) ∈ f → (pc, .lst (zV cm)) ∈ f → (po, .lst (zV A)) ∈ f → (pt, .lst (zV B)) ∈ f → NR Q (.ref p) H f
theorem WC__law_built {K : PySem.W.Frag} {H0 : Hp} {fs : Fs} {Φ : CV} {a : Addr} {ns : List Int} (h : Rl K H0 fs a (zV ns))
    (c : ∀ (cm A B : List Int) (pc po pt p : Addr) (f : Fs), Bu cm A B → (p, .tup [.ref pc, .ref po, .ref pt]) ∈ f → (pc, .lst (zV cm)) ∈ f → (po, .lst (zV A)) ∈ f → (pt, .lst (zV B)) ∈ f → Φ (.ref p) (f ++ fs)) : WC (sp__law_built K) [.ref a] H0 fs Φ :=
  fun H k Q E cc => ⟨a, ns, rfl, h H k, fun cm A B pc po pt p f h1 h2 h3 h4 h5 H' k' => cc _ _ _ (k.app k') (c cm A B pc po pt p f h1 h2 h3 h4 h5)⟩
theorem ok__law_built (T : Txt P K mg base) : FnOk P w K mg base CX0 43 T.a__law_built T.d__law_built ["_law_script"] (sp__law_built K) := by
  refine T.F__law_built.ok sc__law_built (fun vs H Q E h => ?_) (fun cdv A outer s H vs Q E hr h => ?_)
  · obtain ⟨a, ns, rfl, _⟩ := h; rfl
  · obtain ⟨a, ns, rfl, hA, c⟩ := h
    refine ⟨_, (pss_cons (ps_set (i := 1) sc__law_built.nd rfl (Or.inl rfl) (pe_call (ok__law_cell_at T) (hr.mono (by decide)) (by rfl) T.m__law_cell_at T.F__law_cell_at.kp T.b__law_cell_at .nil pass0 (pa_cons (pv 0) (pa_cons pe_int pa_nil))))
      (pss_cons (ps_set (i := 2) sc__law_built.nd rfl (Or.inl rfl) (pe_call (ok__law_cell_at T) (hr.mono (by decide)) (by rfl) T.m__law_cell_at T.F__law_cell_at.kp T.b__law_cell_at .nil pass0 (pa_cons (pv 0) (pa_cons pe_int pa_nil))))
      (pss_cons (ps_set (i := 3) sc__law_built.nd rfl (Or.inl rfl) (pe_call (ok__law_drawn T) (hr.mono (by decide)) (by rfl) T.m__law_drawn T.F__law_drawn.kp T.b__law_drawn .nil pass0 (pa_cons (pv 0) (pa_cons pe_int (pa_cons (pe_ix ix_list (pe_lst (pa_cons pe_int (pa_cons pe_int (pa_cons pe_int (pa_cons pe_int (pa_cons pe_int pa_nil)))))) (pe_op op_mod (pe_op op_fdiv (pv 1) pe_int) pe_int) (fun _ _ => rfl)) (pa_cons pe_int pa_nil))))))
      (pss_cut (ps_if (pt_cmpR op_eq (pe_op op_mod (pv 1) pe_int) pe_int (nomark _)) (pss_one (ps_set (i := 3) sc__law_built.nd rfl (Or.inl rfl) (pe_call (ok__law_trim T) (hr.mono (by decide)) (by rfl) T.m__law_trim T.F__law_trim.kp T.b__law_trim .nil pass0 (pa_cons (pe_lc (own := [("_law_k", 6)]) (g := gName 6) (tt := tYes) rfl sc__law_built.nd (pi_range1 rfl T.z_range (pa_cons (pe_op op_add pe_int (pe_op op_mod (pe_op op_fdiv (pv 1) pe_int) pe_int)) pa_nil)) (blkOk_by (own := [("_law_k", 6)]) (N := ["_law_script", "_law_first", "_law_second", "_law_common", "_law_ones", "_law_others", "_law_k"]) (sc := defScope s__law_built) (by decide +kernel)) (fun _ _ _ _ _ => pg_name (i := 6) sc__law_built.nd rfl (Or.inl rfl)) (fun _ _ _ _ _ => pts_nil) (fun _ _ _ _ _ => (pe_call (ok__law_small T) (hr.mono (by decide)) (by rfl) T.m__law_small T.F__law_small.kp T.b__law_small .nil pass0 (pa_cons (pe_call (ok__law_cell_at T) (hr.mono (by decide)) (by rfl) T.m__law_cell_at T.F__law_cell_at.kp T.b__law_cell_at .nil pass0 (pa_cons (pv 0) (pa_cons (pe_op op_add pe_int (pv 6)) pa_nil))) pa_nil)))) pa_nil)))) pss_nil)
      (pss_cons (ps_set (i := 4) sc__law_built.nd rfl (Or.inl rfl) (pe_call (ok__law_times T) (hr.mono (by decide)) (by rfl) T.m__law_times T.F__law_times.kp T.b__law_times .nil pass0 (pa_cons (pv 3) (pa_cons (pe_call (ok__law_drawn T) (hr.mono (by decide)) (by rfl) T.m__law_drawn T.F__law_drawn.kp T.b__law_drawn .nil pass0 (pa_cons (pv 0) (pa_cons pe_int (pa_cons (pe_op op_mod (pv 2) pe_int) (pa_cons pe_int pa_nil))))) pa_nil))))
      (pss_cons (ps_set (i := 5) sc__law_built.nd rfl (Or.inl rfl) (pe_call (ok__law_times T) (hr.mono (by decide)) (by rfl) T.m__law_times T.F__law_times.kp T.b__law_times .nil pass0 (pa_cons (pv 3) (pa_cons (pe_call (ok__law_drawn T) (hr.mono (by decide)) (by rfl) T.m__law_drawn T.F__law_drawn.kp T.b__law_drawn .nil pass0 (pa_cons (pv 0) (pa_cons pe_int (pa_cons (pe_op op_mod (pe_op op_fdiv (pv 2) pe_int) pe_int) (pa_cons pe_int pa_nil))))) pa_nil))))
      (pss_cut (ps_if (pt_cmpR op_eq (pe_op op_mod (pv 1) pe_int) pe_int (nomark _)) (pss_one (ps_set (i := 4) sc__law_built.nd rfl (Or.inl rfl) (pe_lst pa_nil))) pss_nil)
      (pss_cut (ps_if (pt_cmpR op_eq (pe_op op_mod (pv 1) pe_int) pe_int (nomark _)) (pss_one (ps_set (i := 5) sc__law_built.nd rfl (Or.inl rfl) (pe_lst pa_nil))) pss_nil)
      (pss_cut (ps_if (pt_cmpR op_eq (pe_op op_mod (pv 1) pe_int) pe_int (nomark _)) (pss_cons (ps_set (i := 3) sc__law_built.nd rfl (Or.inl rfl) (pe_lst (pa_cons pe_int pa_nil)))
      (pss_cons (ps_set (i := 4) sc__law_built.nd rfl (Or.inl rfl) (pe_call (ok__law_trim T) (hr.mono (by decide)) (by rfl) T.m__law_trim T.F__law_trim.kp T.b__law_trim .nil pass0 (pa_cons (pe_lc (own := [("_law_k", 6)]) (g := gName 6) (tt := tYes) rfl sc__law_built.nd (pi_range1 rfl T.z_range (pa_cons (pe_op op_add pe_int (pe_op op_mod (pv 2) pe_int)) pa_nil)) (blkOk_by (own := [("_law_k", 6)]) (N := ["_law_script", "_law_first", "_law_second", "_law_common", "_law_ones", "_law_others", "_law_k"]) (sc := defScope s__law_built) (by decide +kernel)) (fun _ _ _ _ _ => pg_name (i := 6) sc__law_built.nd rfl (Or.inl rfl)) (fun _ _ _ _ _ => pts_nil) (fun _ _ _ _ _ => (pe_call (ok__law_small T) (hr.mono (by decide)) (by rfl) T.m__law_small T.F__law_small.kp T.b__law_small .nil pass0 (pa_cons (pe_call (ok__law_cell_at T) (hr.mono (by decide)) (by rfl) T.m__law_cell_at T.F__law_cell_at.kp T.b__law_cell_at .nil pass0 (pa_cons (pv 0) (pa_cons (pe_op op_add pe_int (pv 6)) pa_nil))) pa_nil)))) pa_nil)))
      (pss_one (ps_set (i := 5) sc__law_built.nd rfl (Or.inl rfl) (pe_call (ok__law_trim T) (hr.mono (by decide)) (by rfl) T.m__law_trim T.F__law_trim.kp T.b__law_trim .nil pass0 (pa_cons (pe_lc (own := [("_law_k", 6)]) (g := gName 6) (tt := tYes) rfl sc__law_built.nd (pi_range1 rfl T.z_range (pa_cons (pe_op op_add pe_int (pe_op op_mod (pe_op op_fdiv (pv 2) pe_int) pe_int)) pa_nil)) (blkOk_by (own := [("_law_k", 6)]) (N := ["_law_script", "_law_first", "_law_second", "_law_common", "_law_ones", "_law_others", "_law_k"]) (sc := defScope s__law_built) (by decide +kernel)) (fun _ _ _ _ _ => pg_name (i := 6) sc__law_built.nd rfl (Or.inl rfl)) (fun _ _ _ _ _ => pts_nil) (fun _ _ _ _ _ => (pe_call (ok__law_small T) (hr.mono (by decide)) (by rfl) T.m__law_small T.F__law_small.kp T.b__law_small .nil pass0 (pa_cons (pe_call (ok__law_cell_at T) (hr.mono (by decide)) (by rfl) T.m__law_cell_at T.F__law_cell_at.kp T.b__law_cell_at .nil pass0 (pa_cons (pv 0) (pa_cons (pe_op op_add pe_int (pv 6)) pa_nil))) pa_nil)))) pa_nil)))))) pss_nil)
      (pss_cut (ps_if (pt_cmpR op_eq (pe_op op_mod (pv 1) pe_int) pe_int (nomark _)) (pss_cons (ps_set (i := 3) sc__law_built.nd rfl (Or.inl rfl) (pv 4))
      (pss_one (ps_set (i := 5) sc__law_built.nd rfl (Or.inl rfl) (pe_callTy cListOf (by rfl) T.z_list (by decide +kernel) (pa_cons (pv 4) pa_nil))))) pss_nil)
      (pss_one (ps_ret (pe_tup (pa_cons (pv 3) (pa_cons (pv 4) (pa_cons (pv 5) pa_nil)))))))))))))))), ?_⟩
    refine N.go (σ := [some (.ref a), none, none, none, none, none, none]) ?_
    walk_at "w"
    refine WC__law_cell_at (ns := ns) (by walk_at "rl") (by omega) ?_
    generalize gat ns 0 = first
    walk_at "d"
    walk_at "w"
    refine WC__law_cell_at (ns := ns) (by walk_at "rl") (by omega) ?_
    generalize gat ns 1 = second
    walk_at "d"
    walk_at "w"
    refine ⟨by simp, fun z => ?_⟩
    walk_at "w"
    obtain ⟨sz, e5, z0, z3⟩ := five_at (i := first / 8 % 5) (by omega) (by omega)
    refine RW.ixL (by walk_at "rl") e5 ?_
    walk_at "w"
    refine WC__law_drawn (ns := ns) (by walk_at "rl") (by omega) (by omega) (by omega) fun r1 => ?_
    have hlen1 : (drawn ns 2 sz 0).length ≤ 3 := drawn_len2 ns (by omega) (by omega)
    have hbd1 := drawn_bd3 ns 2 sz 0
    have htr1 := drawn_tr ns 2 sz 0
    generalize drawn ns 2 sz 0 = cm0 at hlen1 hbd1 htr1
    walk_at "d"
    refine S.cut (fun σ f => ∃ pc cm, σ = [some (.ref a), some (.int first), some (.int second), some (.ref pc), none, none, none] ∧ f = [(pc, .lst (zV cm))] ∧ Tr cm ∧ ((cm.length ≤ 3 ∧ BdL 133 cm) ∨ (cm.length ≤ 9 ∧ BdL 34 cm))) ?_ ?_
    · walk_at "w"
      walk_at "if"
      · walk_at "w"
        refine W.lcRz (n := 2 + first / 8 % 8) (fun (k : Nat) => small__law_small (gat ns (17 + (k : Int)))) ?_
        walk_at "w"
        refine ⟨rfl, by omega, by omega, fun _ => rfl, fun i D acc hi => ?_, fun D => ?_⟩
        · walk_at "d"
          walk_at "w"
          refine WC__law_cell_at (ns := ns) (by walk_at "rl") (by omega) ?_
          walk_at "w"
          refine WC__law_small ?_
          exact ⟨rfl, by walk_at "sub"⟩
        walk_at "w"
        refine WC__law_trim (by walk_at "rx") (by simp; omega) fun p => ?_
        walk_at "d"
        refine Un.sub [(p, .lst (zV (trim (smalls ns 17 (2 + first / 8 % 8)))))] (.cons_cons _ (by walk_at "sub")) ?_
        exact ⟨p, _, rfl, rfl, tr_trim _, .inr ⟨Nat.le_trans (smalls_len _ _ _) (by omega), smalls_bd _ _ _⟩⟩
      · walk_at "w"
        refine Un.sub [(r1, .lst (zV cm0))] (by walk_at "sub") ?_
        exact ⟨r1, cm0, rfl, rfl, htr1, .inl ⟨hlen1, hbd1⟩⟩
    clear hlen1 hbd1 htr1
    rintro σ f ⟨pc, cm, rfl, rfl, htc, hcm⟩
    walk_at "w"
    refine WC__law_drawn (ns := ns) (by walk_at "rl") (by omega) (by omega) (by omega) fun r2 => ?_
    have hlen2 : (drawn ns 6 (second % 6) 0).length ≤ 5 := drawn_len2 ns (by omega) (by omega)
    have hbd2 := drawn_bd3 ns 6 (second % 6) 0
    generalize drawn ns 6 (second % 6) 0 = w1 at hlen2 hbd2
    walk_at "w"
    have hcb : BdL 133 cm := by rcases hcm with h | h <;> exact h.2.mono (by omega)
    have hcl : cm.length ≤ 9 := by rcases hcm with h | h <;> omega
    refine WC__law_times (xs := cm) (ys := w1) 133 133 (by walk_at "rx") (by walk_at "rx") ⟨by omega, by omega⟩ hcb hbd2 (by omega) fun t1 => ?_
    walk_at "d"
    walk_at "w"
    refine WC__law_drawn (ns := ns) (by walk_at "rl") (by omega) (by omega) (by omega) fun r3 => ?_
    have hlen3 : (drawn ns 12 (second / 6 % 5) 0).length ≤ 5 := drawn_len2 ns (by omega) (by omega)
    have hbd3 := drawn_bd3 ns 12 (second / 6 % 5) 0
    generalize drawn ns 12 (second / 6 % 5) 0 = w2 at hlen3 hbd3
    walk_at "w"
    refine WC__law_times (xs := cm) (ys := w2) 133 133 (by walk_at "rx") (by walk_at "rx") ⟨by omega, by omega⟩ hcb hbd3 (by omega) fun t2 => ?_
    walk_at "d"
    have hB := Bu.of htc hcm hlen2 hlen3 hbd2 hbd3
    generalize tm cm w1 = xs at hB
    generalize tm cm w2 = ys at hB
    clear hcm hlen2 hlen3 hbd2 hbd3 hcb hcl htc
    refine N.sub [(t2, .lst (zV ys)), (t1, .lst (zV xs)), (pc, .lst (zV cm))] (by walk_at "sub") ?_
    refine S.cut (fun σ f => ∃ po xs, σ = [some (.ref a), some (.int first), some (.int second), some (.ref pc), some (.ref po), some (.ref t2), none] ∧ f = [(po, .lst (zV xs)), (t2, .lst (zV ys)), (pc, .lst (zV cm))] ∧ Bu cm xs ys) ?_ ?_
    · walk_at "w"
      walk_at "if"
      · walk_at "w"
        intro l
        walk_at "d"
        refine Un.sub [(l, .lst (zV [])), (t2, .lst (zV ys)), (pc, .lst (zV cm))] (by walk_at "sub") ?_
        exact ⟨l, [], rfl, rfl, hB.nilA⟩
      · walk_at "w"
        refine N.swap ?_
        walk_at "un"
        exact ⟨t1, xs, rfl, rfl, hB⟩
    clear hB
    rintro σ f ⟨po, xs, rfl, rfl, hB⟩
    refine S.cut (fun σ f => ∃ pt ys, σ = [some (.ref a), some (.int first), some (.int second), some (.ref pc), some (.ref po), some (.ref pt), none] ∧ f = [(pt, .lst (zV ys)), (po, .lst (zV xs)), (pc, .lst (zV cm))] ∧ Bu cm xs ys) ?_ ?_
    · walk_at "w"
      walk_at "if"
      · walk_at "w"
        intro l
        walk_at "d"
        refine Un.sub [(l, .lst (zV [])), (po, .lst (zV xs)), (pc, .lst (zV cm))] (by walk_at "sub") ?_
        exact ⟨l, [], rfl, rfl, hB.nilB⟩
      · walk_at "w"
        refine N.swap ?_
        walk_at "un"
        exact ⟨t2, ys, rfl, rfl, hB⟩
    clear hB
    rintro σ f ⟨pt, ys, rfl, rfl, hB⟩
    refine S.cut (fun σ f => ∃ pt po pc cm xs ys y, σ = [some (.ref a), some (.int first), some (.int second), some (.ref pc), some (.ref po), some (.ref pt), y] ∧ f = [(pt, .lst (zV ys)), (po, .lst (zV xs)), (pc, .lst (zV cm))] ∧ Bu cm xs ys) ?_ ?_
    · walk_at "w"
      walk_at "if"
      · walk_at "w"
        intro l
        walk_at "d"
        walk_at "w"
        refine W.lcRz (n := 2 + second % 12) (fun (k : Nat) => small__law_small (gat ns (2 + (k : Int)))) ?_
        walk_at "w"
        refine ⟨rfl, by omega, by omega, fun _ => rfl, fun i D acc hi => ?_, fun D => ?_⟩
        · walk_at "d"
          walk_at "w"
          refine WC__law_cell_at (ns := ns) (by walk_at "rl") (by omega) ?_
          walk_at "w"
          refine WC__law_small ?_
          exact ⟨rfl, by walk_at "sub"⟩
        walk_at "w"
        refine WC__law_trim (by walk_at "rx") (by simp; omega) fun p => ?_
        walk_at "d"
        walk_at "w"
        refine W.lcRz (n := 2 + second / 12 % 12) (fun (k : Nat) => small__law_small (gat ns (15 + (k : Int)))) ?_
        walk_at "w"
        refine ⟨rfl, by omega, by omega, fun _ => rfl, fun i D acc hi => ?_, fun D2 => ?_⟩
        · walk_at "d"
          walk_at "w"
          refine WC__law_cell_at (ns := ns) (by walk_at "rl") (by omega) ?_
          walk_at "w"
          refine WC__law_small ?_
          exact ⟨rfl, by walk_at "sub"⟩
        walk_at "w"
        refine WC__law_trim (by walk_at "rx") (by simp; omega) fun p2 => ?_
        walk_at "d"
        refine Un.sub [(p2, .lst (zV (trim (smalls ns 15 (2 + second / 12 % 12))))), (p, .lst (zV (trim (smalls ns 2 (2 + second % 12))))), (l, .lst (zV [1]))] (.cons_cons _ (.cons _ (.cons_cons _ (.cons _ (.cons_cons _ (by walk_at "sub")))))) ?_
        exact ⟨p2, p, l, [1], _, _, _, rfl, rfl, Bu.small (tr_trim _) (tr_trim _) (Nat.le_trans (smalls_len _ _ _) (by omega)) (Nat.le_trans (smalls_len _ _ _) (by omega)) (smalls_bd _ _ _) (smalls_bd _ _ _)⟩
      · walk_at "w"
        walk_at "un"
        exact ⟨pt, po, pc, cm, xs, ys, _, rfl, rfl, hB⟩
    clear hB
    rintro σ f ⟨pt, po, pc, cm, xs, ys, y, rfl, rfl, hB⟩
    refine S.cut (fun σ f => ∃ pt po pc cm xs ys, σ = [some (.ref a), some (.int first), some (.int second), some (.ref pc), some (.ref po), some (.ref pt), y] ∧ (pc, .lst (zV cm)) ∈ f ∧ (po, .lst (zV xs)) ∈ f ∧ (pt, .lst (zV ys)) ∈ f ∧ Bu cm xs ys) ?_ ?_
    · walk_at "w"
      walk_at "if"
      · walk_at "w"
        walk_at "d"
        walk_at "w"
        intro l
        walk_at "d"
        walk_at "un"
        exact ⟨l, po, po, xs, xs, xs, rfl, by walk_at "mem", by walk_at "mem", by walk_at "mem", hB.both⟩
      · walk_at "w"
        walk_at "un"
        exact ⟨pt, po, pc, cm, xs, ys, rfl, by walk_at "mem", by walk_at "mem", by walk_at "mem", hB⟩
    rintro σ f ⟨pt, po, pc, cm, xs, ys, rfl, m1, m2, m3, hB⟩
    walk_at "w"
    refine ⟨by simp, fun p => ?_⟩
    exact c cm xs ys pc po pt p _ hB (.head _) (.tail _ m1) (.tail _ m2) (.tail _ m3)

end

section
variable {P : Program} {w : World} {K : PySem.W.Frag} {mg : Str → Option Value} {base : Heap}
theorem N.self {e : St → Hp → Prop} {σ : St} {H : Hp} (h : N e σ H []) : e σ H := h H fun _ _ e => e
theorem N.sevens (ns : List Int) : zV ns ++ [V.int 7] = zV (ns ++ [7]) := zV_app ns [7]
theorem any_two (A B : List Int) : ([zD A, zD B].any fun z => PyData.eqv z (zD [])) = (decide (A = []) || decide (B = [])) := by
  show (PyData.eqv (zD A) (zD []) || (PyData.eqv (zD B) (zD []) || false)) = _
  rw [zD_eqv, zD_eqv, Bool.or_false]
/-- what is due of the greatest -/
structure Due (A B dd : List Int) : Prop where
  t : Tr dd
  ne : dd ≠ []
  ct : cont dd = 1
  pa : PD (S dd) (S A)
  pb : PD (S dd) (S B)
  bd : BdL 299 dd
  l : dd.length ≤ 13
  e : A = [] ∨ B = [] → dd.length = max A.length B.length
def sp_law (K : PySem.W.Frag) : Sp := fun vs H Q _ => ∃ (a : Addr) (ns : List Int), vs = [.ref a] ∧ SqL K H a (ns.map V.int) ∧ ns.length ≤ 63 ∧ ∀ H', Q (.bl true) H'
theorem ok_law (T : Txt P K mg base) : FnOk P w K mg base CX0 48 T.a_law T.d_law ["_law_script"] (sp_law K) := by
  refine T.F_law.ok sc_law (fun vs H Q E h => ?_) (fun cdv A outer s H vs Q E hr h => ?_)
  · obtain ⟨a, ns, rfl, _⟩ := h; rfl
  · obtain ⟨a, ns, rfl, hA, hl, q⟩ := h
    have hA : SqL K H a (zV ns) := hA
    refine ⟨_, (pss_cons (ps_asg (pe_call (ok__law_built T) (hr.mono (by decide)) (by rfl) T.m__law_built T.F__law_built.kp T.b__law_built .nil pass0 (pa_cons (pv 0) pa_nil)) (pg_tup rfl (pgs_cons (pg_name (i := 1) sc_law.nd rfl (Or.inl rfl)) (pgs_cons (pg_name (i := 2) sc_law.nd rfl (Or.inl rfl)) (pgs_cons (pg_name (i := 3) sc_law.nd rfl (Or.inl rfl)) pgs_nil)))))
      (pss_cut (ps_if (PW.pt (pw_and (pt_cmpR (op_eqD hr.units) (pv 2) (pe_lst pa_nil) (nomark _)) (pw_and1 (pt_cmpR (op_eqD hr.units) (pv 3) (pe_lst pa_nil) (nomark _))))) (pss_one (ps_ret (pe_and (pe_call (ok__law_refused T) (hr.mono (by decide)) (by rfl) T.m__law_refused T.F__law_refused.kp T.b__law_refused .nil pass0 (pa_cons pe_bl pa_nil)) (pe_one (pe_call (ok__law_refused T) (hr.mono (by decide)) (by rfl) T.m__law_refused T.F__law_refused.kp T.b__law_refused .nil pass0 (pa_cons pe_bl pa_nil)))))) pss_nil)
      (pss_cons (ps_set (i := 4) sc_law.nd rfl (Or.inl rfl) (pe_lst (pa_cons (pe_callTy cListOf (by rfl) T.z_list (by decide +kernel) (pa_cons (pv 2) pa_nil)) (pa_cons (pe_callTy cListOf (by rfl) T.z_list (by decide +kernel) (pa_cons (pv 3) pa_nil)) pa_nil))))
      (pss_cons (ps_set (i := 5) sc_law.nd rfl (Or.inl rfl) (pe_call (ok_meet T) (hr.mono (by decide)) (by rfl) T.m_meet T.F_meet.kp T.b_meet .nil pass0 (pa_cons (pe_ix ix_list (pv 4) pe_int (fun _ _ => rfl)) (pa_cons (pe_ix ix_list (pv 4) pe_int (fun _ _ => rfl)) pa_nil))))
      (pss_cons (ps_if (PW.pt (pw_or (pt_not (pt_val (pe_call (ok__law_same T) (hr.mono (by decide)) (by rfl) T.m__law_same T.F__law_same.kp T.b__law_same .nil pass0 (pa_cons (pe_ix ix_list (pv 4) pe_int (fun _ _ => rfl)) (pa_cons (pv 2) pa_nil))))) (pw_or (pt_not (pt_val (pe_call (ok__law_same T) (hr.mono (by decide)) (by rfl) T.m__law_same T.F__law_same.kp T.b__law_same .nil pass0 (pa_cons (pe_ix ix_list (pv 4) pe_int (fun _ _ => rfl)) (pa_cons (pv 3) pa_nil))))) (pw_or1 (pt_not (pt_val (pe_call (ok__law_fits T) (hr.mono (by decide)) (by rfl) T.m__law_fits T.F__law_fits.kp T.b__law_fits .nil pass0 (pa_cons (pv 5) (pa_cons (pv 2) (pa_cons (pv 3) pa_nil)))))))))) (pss_one (ps_ret pe_bl)) pss_nil)
      (pss_cons (ps_set (i := 6) sc_law.nd rfl (Or.inl rfl) (pe_call (ok__law_simple T) (hr.mono (by decide)) (by rfl) T.m__law_simple T.F__law_simple.kp T.b__law_simple .nil pass0 (pa_cons (pv 1) pa_nil)))
      (pss_cut (ps_if (PW.pt (pw_or (pt_cmpR (op_eqD hr.units) (pv 2) (pe_lst pa_nil) (nomark _)) (pw_or1 (pt_cmpR (op_eqD hr.units) (pv 3) (pe_lst pa_nil) (nomark _))))) (pss_one (ps_set (i := 6) sc_law.nd rfl (Or.inl rfl) (pe_call (ok__law_simple T) (hr.mono (by decide)) (by rfl) T.m__law_simple T.F__law_simple.kp T.b__law_simple .nil pass0 (pa_cons (pe_op op_cat (pv 2) (pv 3)) pa_nil)))) pss_nil)
      (pss_cut (ps_if (PW.pt (pw_or (pt_not (pt_val (pe_call (ok__law_divides T) (hr.mono (by decide)) (by rfl) T.m__law_divides T.F__law_divides.kp T.b__law_divides .nil pass0 (pa_cons (pv 6) (pa_cons (pe_ix ix_tup (pv 5) pe_int (fun _ _ => rfl)) pa_nil))))) (pw_or1 (PW.pt (pw_and (pt_cmpR (op_inDr hr) (pe_lst pa_nil) (pe_lst (pa_cons (pv 2) (pa_cons (pv 3) pa_nil))) rfl) (pw_and1 (pt_cmpR op_ne (pe_callB cLen (by rfl) T.z_len PySem.boot_len (pa_cons (pe_ix ix_tup (pv 5) pe_int (fun _ _ => rfl)) pa_nil)) (pe_callB cLen (by rfl) T.z_len PySem.boot_len (pa_cons (pv 6) pa_nil)) (nomark _)))))))) (pss_one (ps_ret pe_bl)) pss_nil)
      (pss_cons (ps_setLc (i := 7) (own := [("_law_one", 10)]) (g := gName 10) (tt := tYes) rfl sc_law.nd rfl rfl (sw_true rfl rfl rfl (by decide +kernel)) (pi_tup (pe_slice sl_tup (pv 5) po_none (po_some pe_int))) (blkOk_by (own := [("_law_one", 10)]) (N := ["_law_script", "_law_common", "_law_ones", "_law_others", "_law_handed", "_law_found", "_law_due", "_law_kept", "_law_k", "_law_again", "_law_one"]) (sc := defScope s_law) (by decide +kernel)) (fun _ _ _ _ _ => pg_name (i := 10) sc_law.nd rfl (Or.inl rfl)) (fun _ _ _ _ _ => pts_nil) (fun _ _ _ _ _ => (pe_callTy (cListOfK (K := K) rfl) (by rfl) T.z_list (by decide +kernel) (pa_cons (pv 10) pa_nil))))
      (pss_cons (ps_for PassesOwn.never rfl (pi_range1 rfl T.z_range (pa_cons pe_int pa_nil)) (pg_name (i := 8) sc_law.nd rfl (Or.inl rfl)) (pss_cons (ps_expr (pe_bm PySem.F.plainAttrs_list PySem.F.slot_list_append PySem.F.type_list_append mt_append (pe_ix ix_tup (pv 5) (pv 8) (fun _ _ => rfl)) (pa_cons pe_int pa_nil)))
      (pss_cons (ps_expr (pe_bm PySem.F.plainAttrs_list PySem.F.slot_list_append PySem.F.type_list_append mt_append (pe_ix ix_list (pv 7) (pv 8) (fun _ _ => rfl)) (pa_cons pe_int pa_nil)))
      (pss_one (ps_if (pt_cmpR (op_neD hr.units) (pe_callTy cListOf (by rfl) T.z_list (by decide +kernel) (pa_cons (pe_slice sl_tup (pv 5) po_none (po_some pe_int)) pa_nil)) (pv 7) (nomark _)) (pss_one (ps_ret pe_bl)) pss_nil)))))
      (pss_cons (ps_set (i := 9) sc_law.nd rfl (Or.inl rfl) (pe_call (ok_meet T) (hr.mono (by decide)) (by rfl) T.m_meet T.F_meet.kp T.b_meet .nil pass0 (pa_cons (pe_ix ix_list (pv 4) pe_int (fun _ _ => rfl)) (pa_cons (pe_ix ix_list (pv 4) pe_int (fun _ _ => rfl)) pa_nil))))
      (pss_one (ps_ret (pe_and (pe_call (ok__law_fits T) (hr.mono (by decide)) (by rfl) T.m__law_fits T.F__law_fits.kp T.b__law_fits .nil pass0 (pa_cons (pv 9) (pa_cons (pv 2) (pa_cons (pv 3) pa_nil)))) (pe_and (pe_call (ok__law_same T) (hr.mono (by decide)) (by rfl) T.m__law_same T.F__law_same.kp T.b__law_same .nil pass0 (pa_cons (pe_ix ix_list (pv 4) pe_int (fun _ _ => rfl)) (pa_cons (pv 2) pa_nil))) (pe_one (pe_call (ok__law_same T) (hr.mono (by decide)) (by rfl) T.m__law_same T.F__law_same.kp T.b__law_same .nil pass0 (pa_cons (pe_ix ix_list (pv 4) pe_int (fun _ _ => rfl)) (pa_cons (pv 3) pa_nil))))))))))))))))))), ?_⟩
    refine N.go (σ := [some (.ref a), none, none, none, none, none, none, none, none, none, none]) ?_
    refine S.seq ?_
    refine S.asgT ?_
    walk_at "w"
    refine WC__law_built (ns := ns) (by walk_at "rl") fun cm A B pc po pt p f hBu m1 m2 m3 m4 => ?_
    refine ⟨p, _, rfl, Rt.x (Rx.own (List.mem_append_left _ m1)), rfl, fun H1 k1 => ⟨_, _, rfl, _, _, rfl, _, _, rfl, rfl, ?_⟩⟩
    have hc1 := k1.get (List.mem_append_left _ m2)
    have ha1 := k1.get (List.mem_append_left _ m3)
    have hb1 := k1.get (List.mem_append_left _ m4)
    clear k1 m1 m2 m3 m4 hA
    refine N.self ?_
    walk_at "d"
    obtain ⟨nb, hsz, h16, hbA, hbB, h299⟩ : ∃ nb, SzE A B nb ∧ 16 ≤ nb ∧ BdL nb A ∧ BdL nb B ∧ nb ≤ 299 := by
      rcases hBu.sz with ⟨a, b, c, d⟩ | ⟨a, b, c, d⟩
      · exact ⟨177, .inl ⟨a, b, by omega⟩, by omega, c, d, by omega⟩
      · exact ⟨299, .inr ⟨a, b, by omega⟩, by omega, c, d, by omega⟩
    have hlen : A.length ≤ 13 ∧ B.length ≤ 13 := by rcases hBu.sz with h | h <;> omega
    refine S.cut (fun σ f => σ = [some (.ref a), some (.ref pc), some (.ref po), some (.ref pt), none, none, none, none, none, none, none] ∧ f = [] ∧ (A ≠ [] ∨ B ≠ [])) ?_ ?_
    · walk_at "w"
      intro z1
      walk_at "w"
      by_cases hA0 : A = []
      · rw [decide_eq_true hA0]
        walk_at "w"
        intro z2
        walk_at "w"
        by_cases hB0 : B = []
        · rw [decide_eq_true hB0]
          walk_at "w"
          refine WC__law_refused ?_
          walk_at "w"
          refine WC__law_refused ?_
          exact fun H' _ => q H'
        · rw [decide_eq_false hB0]
          walk_at "w"
          exact Un.sub [] (by walk_at "sub") ⟨rfl, rfl, .inr hB0⟩
      · rw [decide_eq_false hA0]
        walk_at "w"
        exact Un.sub [] (by walk_at "sub") ⟨rfl, rfl, .inl hA0⟩
    rintro σ f ⟨rfl, rfl, hne⟩
    walk_at "w"
    intro c1
    walk_at "w"
    intro c2
    walk_at "w"
    refine ⟨by simp, fun hh => ?_⟩
    walk_at "d"
    walk_at "w"
    have hEE : B = [] → EE A.length nb 1 nb := fun h => EE.ee hsz (hne.resolve_right fun h2 => h2 h)
    refine WC_meet (xs := A) (ys := B) nb nb EE (by walk_at "rx") (by walk_at "rx") ⟨by omega, by omega⟩ hBu.ta hBu.tb hne ⟨hbA, hbB, by omega, by omega⟩ (fun h => Go.ee hsz h16 h) hEE (MtQ.ee hsz) fun x s t u v n a' c' d' hM hE hx hu hv hn hMB hxl p1 p2 p3 p4 p5 p => ?_
    have hF := FtB.of hE hx hu hv hn hMB hbA hbB h299
    have hxb := hE
    have hsl : s.length ≤ 9000 := by
      have := hM.w1.len hM.cb.xt hM.ne
      omega
    have htl : t.length ≤ 9000 := by
      have := hM.w2.len hM.cb.xt hM.ne
      omega
    walk_at "d"
    walk_at "w"
    refine WC__law_same (xs := A) (by walk_at "rx") (by walk_at "rx") (by omega) ?_
    walk_at "w"
    refine WC__law_same (xs := B) (by walk_at "rx") (by walk_at "rx") (by omega) ?_
    walk_at "w"
    refine WC__law_fits (A := A) (B := B) (x := x) (s := s) (t := t) (u := u) (v := v) (by walk_at "rx") (by walk_at "rx") (by walk_at "rx") (by walk_at "rx") (by walk_at "rx") (by walk_at "rx") (by walk_at "rx") (by walk_at "rx") hBu.ta hBu.tb hM hF ⟨by omega, by omega, by omega, hsl, htl, by omega, by omega⟩ ?_
    walk_at "w"
    have hcmn : cm ≠ [] := fun z => by
      have e1 := hBu.pa
      have e2 := hBu.pb
      rw [z, S_nil] at e1 e2
      rcases hne with h | h
      · obtain ⟨_, k, _, e⟩ := e1
        exact h (S_zero_nil hBu.ta (by rw [e]; grind))
      · obtain ⟨_, k, _, e⟩ := e2
        exact h (S_zero_nil hBu.tb (by rw [e]; grind))
    have hsgb : ∀ {b : Nat} {xs : List Int}, BdL b xs → b ≤ 9000 → Bd 9000 (sgc xs) := fun {b xs} h hb => by
      have := cont_bd h
      refine Bd.mono (a := b) ?_ hb
      show (sgc xs).natAbs < _
      rw [sgc_abs]; exact this
    have hcl := hBu.cl
    refine WC__law_simple (xs := cm) (by walk_at "rx") (by omega) hBu.tc (hsgb hBu.cb (by omega)) fun pd => ?_
    walk_at "d"
    refine S.cut (fun σ f => ∃ pd dd, σ = [some (.ref a), some (.ref pc), some (.ref po), some (.ref pt), some (.ref hh), some (.ref p), some (.ref pd), none, none, none, none] ∧
      f = [(pd, .lst (zV dd)), (p, .tup [.ref p1, .ref p2, .ref p3, .ref p4, .ref p5, .int n]), (p5, .lst (zV v)), (p4, .lst (zV u)), (p3, .lst (zV t)), (p2, .lst (zV s)), (p1, .lst (zV x)), (hh, .lst [.ref c1, .ref c2]), (c2, .lst (zV B)), (c1, .lst (zV A))] ∧ Due A B dd) ?_ ?_
    · have hap : (A = [] ∨ B = []) → Tr (A ++ B) ∧ A ++ B ≠ [] ∧ PD (S (A ++ B)) (S A) ∧ PD (S (A ++ B)) (S B) ∧ (A ++ B).length = max A.length B.length := fun h => by
        rcases h with h | h
        · subst h
          refine ⟨hBu.tb, hne.resolve_left fun z => z rfl, ?_, PD.refl _, ?_⟩
          · rw [S_nil]; exact PD.zero _
          · simp
        · subst h
          rw [List.append_nil]
          refine ⟨hBu.ta, hne.resolve_right fun z => z rfl, PD.refl _, ?_, ?_⟩
          · rw [S_nil]; exact PD.zero _
          · simp
      have hdone : ∀ {D : Ends} , True := fun {_} => trivial
      walk_at "w"
      intro z1
      walk_at "w"
      by_cases hA0 : A = []
      · obtain ⟨e1, e2, e3, e4, e5⟩ := hap (.inl hA0)
        rw [decide_eq_true hA0]
        walk_at "w"
        refine RW.catZ (xs := A) (ys := B) (by walk_at "rx") (by walk_at "rx") (by omega) fun l => ?_
        walk_at "w"
        have bl : BdL 299 (A ++ B) := fun y hy => by
          rcases List.mem_append.mp hy with h | h
          · exact (show Bd nb y from hbA y h).mono h299
          · exact (show Bd nb y from hbB y h).mono h299
        refine WC__law_simple (xs := A ++ B) (by walk_at "rx") (by rw [List.length_append]; omega) e1 (hsgb bl (by omega)) fun pd2 => ?_
        walk_at "d"
        refine Un.sub [(pd2, .lst (zV (simp' (A ++ B)))), (p, .tup [.ref p1, .ref p2, .ref p3, .ref p4, .ref p5, .int n]), (p5, .lst (zV v)), (p4, .lst (zV u)), (p3, .lst (zV t)), (p2, .lst (zV s)), (p1, .lst (zV x)), (hh, .lst [.ref c1, .ref c2]), (c2, .lst (zV B)), (c1, .lst (zV A))] (by walk_at "sub") ?_
        exact ⟨pd2, _, rfl, rfl, simp_tr e1, simp_ne e2, simp_cont e1 e2, (PD.simp e1).trans e3, (PD.simp e1).trans e4, simp_bd e1 bl, by rw [simp_len, e5]; omega, fun _ => by rw [simp_len, e5]⟩
      · rw [decide_eq_false hA0]
        walk_at "w"
        intro z2
        walk_at "w"
        by_cases hB0 : B = []
        · obtain ⟨e1, e2, e3, e4, e5⟩ := hap (.inr hB0)
          rw [decide_eq_true hB0]
          walk_at "w"
          refine RW.catZ (xs := A) (ys := B) (by walk_at "rx") (by walk_at "rx") (by omega) fun l => ?_
          walk_at "w"
          have bl : BdL 299 (A ++ B) := fun y hy => by
            rcases List.mem_append.mp hy with h | h
            · exact (show Bd nb y from hbA y h).mono h299
            · exact (show Bd nb y from hbB y h).mono h299
          refine WC__law_simple (xs := A ++ B) (by walk_at "rx") (by rw [List.length_append]; omega) e1 (hsgb bl (by omega)) fun pd2 => ?_
          walk_at "d"
          refine Un.sub [(pd2, .lst (zV (simp' (A ++ B)))), (p, .tup [.ref p1, .ref p2, .ref p3, .ref p4, .ref p5, .int n]), (p5, .lst (zV v)), (p4, .lst (zV u)), (p3, .lst (zV t)), (p2, .lst (zV s)), (p1, .lst (zV x)), (hh, .lst [.ref c1, .ref c2]), (c2, .lst (zV B)), (c1, .lst (zV A))] (by walk_at "sub") ?_
          exact ⟨pd2, _, rfl, rfl, simp_tr e1, simp_ne e2, simp_cont e1 e2, (PD.simp e1).trans e3, (PD.simp e1).trans e4, simp_bd e1 bl, by rw [simp_len, e5]; omega, fun _ => by rw [simp_len, e5]⟩
        · rw [decide_eq_false hB0]
          walk_at "w"
          refine Un.sub [(pd, .lst (zV (simp' cm))), (p, .tup [.ref p1, .ref p2, .ref p3, .ref p4, .ref p5, .int n]), (p5, .lst (zV v)), (p4, .lst (zV u)), (p3, .lst (zV t)), (p2, .lst (zV s)), (p1, .lst (zV x)), (hh, .lst [.ref c1, .ref c2]), (c2, .lst (zV B)), (c1, .lst (zV A))] (by walk_at "sub") ?_
          exact ⟨pd, _, rfl, rfl, simp_tr hBu.tc, simp_ne hcmn, simp_cont hBu.tc hcmn, (PD.simp hBu.tc).trans hBu.pa, (PD.simp hBu.tc).trans hBu.pb, simp_bd hBu.tc hBu.cb, by rw [simp_len]; omega, fun h => absurd h (by simp [hA0, hB0])⟩
    clear hc1 hcl hcmn
    rintro σ f ⟨pd, dd, rfl, rfl, hD⟩
    obtain ⟨w1, hw1⟩ := (hM.cb.common (Fin.S dd) (prim_of_cont hD.ct) hD.pa hD.pb).whole
    have hdl := hD.l
    have hddl := hw1.lens hD.t hD.ne hM.ne hM.cb.xt
    have hsame : A = [] ∨ B = [] → x.length = dd.length := fun h => by
      have e := hD.e h
      have t1 : x.length ≤ max A.length B.length := by
        rcases hne with h2 | h2
        · have := hM.w1.lens hM.cb.xt hM.ne h2 hBu.ta
          omega
        · have := hM.w2.lens hM.cb.xt hM.ne h2 hBu.tb
          omega
      omega
    have hDB : a' + (x.length + 2 - dd.length) * (299 + 1) + 299 + 1 ≤ 134217728 := by
      obtain ⟨_, h13, aa, q1, q2, _, _⟩ := hE
      have w := wt_top (12 - x.length) (by omega)
      have : (x.length + 2 - dd.length) * (299 + 1) ≤ 15 * 300 := Nat.mul_le_mul (by omega) (by omega)
      omega
    refine S.cut (fun σ f => σ = [some (.ref a), some (.ref pc), some (.ref po), some (.ref pt), some (.ref hh), some (.ref p), some (.ref pd), none, none, none, none] ∧
      f = [(p, .tup [.ref p1, .ref p2, .ref p3, .ref p4, .ref p5, .int n]), (p5, .lst (zV v)), (p4, .lst (zV u)), (p3, .lst (zV t)), (p2, .lst (zV s)), (p1, .lst (zV x)), (hh, .lst [.ref c1, .ref c2]), (c2, .lst (zV B)), (c1, .lst (zV A))]) ?_ ?_
    · walk_at "w"
      refine WC__law_divides (xs := x) (ys := dd) a' 299 (by walk_at "rx") (by walk_at "rx") ⟨by omega, by omega⟩ hD.t hD.ne hx hD.bd (by omega) hDB ⟨_, hw1⟩ ?_
      walk_at "w"
      intro z1
      walk_at "w"
      refine ⟨by simp, fun z2 => ?_⟩
      refine RW.inD (d := zD []) (ds := [zD A, zD B]) (Rd.z (by walk_at "rl")) (Rd.lst (by walk_at "rl") (RdA.cons (Rd.z (by walk_at "rl")) (RdA.cons (Rd.z (by walk_at "rl")) RdA.nil))) (zD_shaped _) (zDD_shaped [A, B]) ?_
      rw [any_two]
      by_cases hab : A = [] ∨ B = []
      · rw [show (decide (A = []) || decide (B = [])) = true by rcases hab with h | h <;> simp [h]]
        walk_at "w"
        rw [decide_eq_true (by have := hsame hab; omega : (x.length : Int) = (dd.length : Int))]
        walk_at "w"
        exact Un.sub _ (by walk_at "sub") ⟨rfl, rfl⟩
      · rw [show (decide (A = []) || decide (B = [])) = false by simp only [not_or] at hab; simp [hab.1, hab.2]]
        walk_at "w"
        exact Un.sub _ (by walk_at "sub") ⟨rfl, rfl⟩
    rintro σ f ⟨rfl, rfl⟩
    clear hD hw1 hdl hddl hsame hDB hE
    walk_at "w"
    refine W.lcT (xs := [.ref p1, .ref p2, .ref p3, .ref p4, .ref p5]) (fun l i acc f =>
      (i = 0 ∧ acc = [] ∧ f = (l, .tup [.ref p1, .ref p2, .ref p3, .ref p4, .ref p5]) :: [(p, .tup [.ref p1, .ref p2, .ref p3, .ref p4, .ref p5, .int n]), (p5, .lst (zV v)), (p4, .lst (zV u)), (p3, .lst (zV t)), (p2, .lst (zV s)), (p1, .lst (zV x)), (hh, .lst [.ref c1, .ref c2]), (c2, .lst (zV B)), (c1, .lst (zV A))]) ∨
      (i = 1 ∧ ∃ d1, acc = [.ref d1] ∧ f = (d1, .lst (zV x)) :: (l, .tup [.ref p1, .ref p2, .ref p3, .ref p4, .ref p5]) :: [(p, .tup [.ref p1, .ref p2, .ref p3, .ref p4, .ref p5, .int n]), (p5, .lst (zV v)), (p4, .lst (zV u)), (p3, .lst (zV t)), (p2, .lst (zV s)), (p1, .lst (zV x)), (hh, .lst [.ref c1, .ref c2]), (c2, .lst (zV B)), (c1, .lst (zV A))]) ∨
      (i = 2 ∧ ∃ d1 d2, acc = [.ref d1, .ref d2] ∧ f = (d2, .lst (zV s)) :: (d1, .lst (zV x)) :: (l, .tup [.ref p1, .ref p2, .ref p3, .ref p4, .ref p5]) :: [(p, .tup [.ref p1, .ref p2, .ref p3, .ref p4, .ref p5, .int n]), (p5, .lst (zV v)), (p4, .lst (zV u)), (p3, .lst (zV t)), (p2, .lst (zV s)), (p1, .lst (zV x)), (hh, .lst [.ref c1, .ref c2]), (c2, .lst (zV B)), (c1, .lst (zV A))]) ∨
      (i = 3 ∧ ∃ d1 d2 d3, acc = [.ref d1, .ref d2, .ref d3] ∧ f = (d3, .lst (zV t)) :: (d2, .lst (zV s)) :: (d1, .lst (zV x)) :: (l, .tup [.ref p1, .ref p2, .ref p3, .ref p4, .ref p5]) :: [(p, .tup [.ref p1, .ref p2, .ref p3, .ref p4, .ref p5, .int n]), (p5, .lst (zV v)), (p4, .lst (zV u)), (p3, .lst (zV t)), (p2, .lst (zV s)), (p1, .lst (zV x)), (hh, .lst [.ref c1, .ref c2]), (c2, .lst (zV B)), (c1, .lst (zV A))]) ∨
      (i = 4 ∧ ∃ d1 d2 d3 d4, acc = [.ref d1, .ref d2, .ref d3, .ref d4] ∧ f = (d4, .lst (zV u)) :: (d3, .lst (zV t)) :: (d2, .lst (zV s)) :: (d1, .lst (zV x)) :: (l, .tup [.ref p1, .ref p2, .ref p3, .ref p4, .ref p5]) :: [(p, .tup [.ref p1, .ref p2, .ref p3, .ref p4, .ref p5, .int n]), (p5, .lst (zV v)), (p4, .lst (zV u)), (p3, .lst (zV t)), (p2, .lst (zV s)), (p1, .lst (zV x)), (hh, .lst [.ref c1, .ref c2]), (c2, .lst (zV B)), (c1, .lst (zV A))]) ∨
      (i = 5 ∧ ∃ d1 d2 d3 d4 d5, acc = [.ref d1, .ref d2, .ref d3, .ref d4, .ref d5] ∧ f = (d5, .lst (zV v)) :: (d4, .lst (zV u)) :: (d3, .lst (zV t)) :: (d2, .lst (zV s)) :: (d1, .lst (zV x)) :: (l, .tup [.ref p1, .ref p2, .ref p3, .ref p4, .ref p5]) :: [(p, .tup [.ref p1, .ref p2, .ref p3, .ref p4, .ref p5, .int n]), (p5, .lst (zV v)), (p4, .lst (zV u)), (p3, .lst (zV t)), (p2, .lst (zV s)), (p1, .lst (zV x)), (hh, .lst [.ref c1, .ref c2]), (c2, .lst (zV B)), (c1, .lst (zV A))])) ?_ ?_ (fun _ => rfl) ?_ ?_
    · walk_at "w"
      refine RS.t (xs := [.ref p1, .ref p2, .ref p3, .ref p4, .ref p5, .int n]) (by walk_at "rt") (show ¬ (HT.sIx 6 0 none = 0 ∧ HT.sIx 6 6 (some 5) = 6) by decide) fun l => ?_
      exact ⟨l, rfl, Rt.x (Rx.own (.head _)), by simp, .inl ⟨rfl, rfl, rfl⟩⟩
    · rintro l i acc f (⟨_, _, rfl⟩ | ⟨_, _, _, rfl⟩ | ⟨_, _, _, _, rfl⟩ | ⟨_, _, _, _, _, rfl⟩ | ⟨_, _, _, _, _, _, rfl⟩ | ⟨_, _, _, _, _, _, _, rfl⟩) <;> walk_at "rt"
    · rintro l i x' D acc f hx' (⟨rfl, rfl, rfl⟩ | ⟨rfl, d1, rfl, rfl⟩ | ⟨rfl, d1, d2, rfl, rfl⟩ | ⟨rfl, d1, d2, d3, rfl, rfl⟩ | ⟨rfl, d1, d2, d3, d4, rfl, rfl⟩ | ⟨rfl, _⟩)
      · cases hx'
        walk_at "d"
        refine WT.yes ⟨fun _ => ?_, fun h => Bool.noConfusion h⟩
        walk_at "w"
        intro y
        exact ⟨1, rfl, .inr (.inl ⟨rfl, y, rfl, rfl⟩)⟩
      · cases hx'
        walk_at "d"
        refine WT.yes ⟨fun _ => ?_, fun h => Bool.noConfusion h⟩
        walk_at "w"
        intro y
        exact ⟨1, rfl, .inr (.inr (.inl ⟨rfl, d1, y, rfl, rfl⟩))⟩
      · cases hx'
        walk_at "d"
        refine WT.yes ⟨fun _ => ?_, fun h => Bool.noConfusion h⟩
        walk_at "w"
        intro y
        exact ⟨1, rfl, .inr (.inr (.inr (.inl ⟨rfl, d1, d2, y, rfl, rfl⟩)))⟩
      · cases hx'
        walk_at "d"
        refine WT.yes ⟨fun _ => ?_, fun h => Bool.noConfusion h⟩
        walk_at "w"
        intro y
        exact ⟨1, rfl, .inr (.inr (.inr (.inr (.inl ⟨rfl, d1, d2, d3, y, rfl, rfl⟩))))⟩
      · cases hx'
        walk_at "d"
        refine WT.yes ⟨fun _ => ?_, fun h => Bool.noConfusion h⟩
        walk_at "w"
        intro y
        exact ⟨1, rfl, .inr (.inr (.inr (.inr (.inr ⟨rfl, d1, d2, d3, d4, y, rfl, rfl⟩))))⟩
      · cases hx'
    rintro l D acc f (⟨h, _⟩ | ⟨h, _⟩ | ⟨h, _⟩ | ⟨h, _⟩ | ⟨h, _⟩ | ⟨_, d1, d2, d3, d4, d5, rfl, rfl⟩)
    · cases h
    · cases h
    · cases h
    · cases h
    · cases h
    walk_at "d"
    walk_at "w"
    refine S.forU 5 ?_
    walk_at "w"
    refine ⟨rfl, by omega, ?_⟩
    walk_at "w"
    walk_at "d"
    walk_at "app"
    · rw [zV_length]; omega
    rw [N.sevens]
    walk_at "d"
    walk_at "w"
    walk_at "app"
    · rw [zV_length]; omega
    rw [N.sevens]
    walk_at "d"
    walk_at "w"
    refine RS.t (xs := [.ref p1, .ref p2, .ref p3, .ref p4, .ref p5, .int n]) (by walk_at "rt") (show ¬ (HT.sIx 6 0 none = 0 ∧ HT.sIx 6 6 (some 5) = 6) by decide) fun l1 => ?_
    walk_at "w"
    refine RC.listT (xs := [.ref p1, .ref p2, .ref p3, .ref p4, .ref p5]) (by walk_at "rt") fun l2 => ?_
    walk_at "w"
    refine RW.neD (d := zDD [x ++ [7], s, t, u, v]) (e := zDD [x ++ [7], s, t, u, v]) (Rd.lst (vs := [.ref p1, .ref p2, .ref p3, .ref p4, .ref p5]) (by walk_at "rl") (RdA.cons (Rd.z (by walk_at "rl")) (RdA.cons (Rd.z (by walk_at "rl")) (RdA.cons (Rd.z (by walk_at "rl")) (RdA.cons (Rd.z (by walk_at "rl")) (RdA.cons (Rd.z (by walk_at "rl")) RdA.nil))))))
      (Rd.lst (vs := [.ref d1, .ref d2, .ref d3, .ref d4, .ref d5]) (by walk_at "rl") (RdA.cons (Rd.z (by walk_at "rl")) (RdA.cons (Rd.z (by walk_at "rl")) (RdA.cons (Rd.z (by walk_at "rl")) (RdA.cons (Rd.z (by walk_at "rl")) (RdA.cons (Rd.z (by walk_at "rl")) RdA.nil)))))) (zDD_shaped _) (zDD_shaped _) ?_
    rw [zDD_eqv, decide_eq_true rfl]
    walk_at "w"
    walk_at "d"
    walk_at "app"
    · rw [zV_length]; omega
    rw [N.sevens]
    walk_at "d"
    walk_at "w"
    walk_at "app"
    · rw [zV_length]; omega
    rw [N.sevens]
    walk_at "d"
    walk_at "w"
    refine RS.t (xs := [.ref p1, .ref p2, .ref p3, .ref p4, .ref p5, .int n]) (by walk_at "rt") (show ¬ (HT.sIx 6 0 none = 0 ∧ HT.sIx 6 6 (some 5) = 6) by decide) fun l1 => ?_
    walk_at "w"
    refine RC.listT (xs := [.ref p1, .ref p2, .ref p3, .ref p4, .ref p5]) (by walk_at "rt") fun l2 => ?_
    walk_at "w"
    refine RW.neD (d := zDD [x ++ [7], s ++ [7], t, u, v]) (e := zDD [x ++ [7], s ++ [7], t, u, v]) (Rd.lst (vs := [.ref p1, .ref p2, .ref p3, .ref p4, .ref p5]) (by walk_at "rl") (RdA.cons (Rd.z (by walk_at "rl")) (RdA.cons (Rd.z (by walk_at "rl")) (RdA.cons (Rd.z (by walk_at "rl")) (RdA.cons (Rd.z (by walk_at "rl")) (RdA.cons (Rd.z (by walk_at "rl")) RdA.nil))))))
      (Rd.lst (vs := [.ref d1, .ref d2, .ref d3, .ref d4, .ref d5]) (by walk_at "rl") (RdA.cons (Rd.z (by walk_at "rl")) (RdA.cons (Rd.z (by walk_at "rl")) (RdA.cons (Rd.z (by walk_at "rl")) (RdA.cons (Rd.z (by walk_at "rl")) (RdA.cons (Rd.z (by walk_at "rl")) RdA.nil)))))) (zDD_shaped _) (zDD_shaped _) ?_
    rw [zDD_eqv, decide_eq_true rfl]
    walk_at "w"
    walk_at "d"
    walk_at "app"
    · rw [zV_length]; omega
    rw [N.sevens]
    walk_at "d"
    walk_at "w"
    walk_at "app"
    · rw [zV_length]; omega
    rw [N.sevens]
    walk_at "d"
    walk_at "w"
    refine RS.t (xs := [.ref p1, .ref p2, .ref p3, .ref p4, .ref p5, .int n]) (by walk_at "rt") (show ¬ (HT.sIx 6 0 none = 0 ∧ HT.sIx 6 6 (some 5) = 6) by decide) fun l1 => ?_
    walk_at "w"
    refine RC.listT (xs := [.ref p1, .ref p2, .ref p3, .ref p4, .ref p5]) (by walk_at "rt") fun l2 => ?_
    walk_at "w"
    refine RW.neD (d := zDD [x ++ [7], s ++ [7], t ++ [7], u, v]) (e := zDD [x ++ [7], s ++ [7], t ++ [7], u, v]) (Rd.lst (vs := [.ref p1, .ref p2, .ref p3, .ref p4, .ref p5]) (by walk_at "rl") (RdA.cons (Rd.z (by walk_at "rl")) (RdA.cons (Rd.z (by walk_at "rl")) (RdA.cons (Rd.z (by walk_at "rl")) (RdA.cons (Rd.z (by walk_at "rl")) (RdA.cons (Rd.z (by walk_at "rl")) RdA.nil))))))
      (Rd.lst (vs := [.ref d1, .ref d2, .ref d3, .ref d4, .ref d5]) (by walk_at "rl") (RdA.cons (Rd.z (by walk_at "rl")) (RdA.cons (Rd.z (by walk_at "rl")) (RdA.cons (Rd.z (by walk_at "rl")) (RdA.cons (Rd.z (by walk_at "rl")) (RdA.cons (Rd.z (by walk_at "rl")) RdA.nil)))))) (zDD_shaped _) (zDD_shaped _) ?_
    rw [zDD_eqv, decide_eq_true rfl]
    walk_at "w"
    walk_at "d"
    walk_at "app"
    · rw [zV_length]; omega
    rw [N.sevens]
    walk_at "d"
    walk_at "w"
    walk_at "app"
    · rw [zV_length]; omega
    rw [N.sevens]
    walk_at "d"
    walk_at "w"
    refine RS.t (xs := [.ref p1, .ref p2, .ref p3, .ref p4, .ref p5, .int n]) (by walk_at "rt") (show ¬ (HT.sIx 6 0 none = 0 ∧ HT.sIx 6 6 (some 5) = 6) by decide) fun l1 => ?_
    walk_at "w"
    refine RC.listT (xs := [.ref p1, .ref p2, .ref p3, .ref p4, .ref p5]) (by walk_at "rt") fun l2 => ?_
    walk_at "w"
    refine RW.neD (d := zDD [x ++ [7], s ++ [7], t ++ [7], u ++ [7], v]) (e := zDD [x ++ [7], s ++ [7], t ++ [7], u ++ [7], v]) (Rd.lst (vs := [.ref p1, .ref p2, .ref p3, .ref p4, .ref p5]) (by walk_at "rl") (RdA.cons (Rd.z (by walk_at "rl")) (RdA.cons (Rd.z (by walk_at "rl")) (RdA.cons (Rd.z (by walk_at "rl")) (RdA.cons (Rd.z (by walk_at "rl")) (RdA.cons (Rd.z (by walk_at "rl")) RdA.nil))))))
      (Rd.lst (vs := [.ref d1, .ref d2, .ref d3, .ref d4, .ref d5]) (by walk_at "rl") (RdA.cons (Rd.z (by walk_at "rl")) (RdA.cons (Rd.z (by walk_at "rl")) (RdA.cons (Rd.z (by walk_at "rl")) (RdA.cons (Rd.z (by walk_at "rl")) (RdA.cons (Rd.z (by walk_at "rl")) RdA.nil)))))) (zDD_shaped _) (zDD_shaped _) ?_
    rw [zDD_eqv, decide_eq_true rfl]
    walk_at "w"
    walk_at "d"
    walk_at "app"
    · rw [zV_length]; omega
    rw [N.sevens]
    walk_at "d"
    walk_at "w"
    walk_at "app"
    · rw [zV_length]; omega
    rw [N.sevens]
    walk_at "d"
    walk_at "w"
    refine RS.t (xs := [.ref p1, .ref p2, .ref p3, .ref p4, .ref p5, .int n]) (by walk_at "rt") (show ¬ (HT.sIx 6 0 none = 0 ∧ HT.sIx 6 6 (some 5) = 6) by decide) fun l1 => ?_
    walk_at "w"
    refine RC.listT (xs := [.ref p1, .ref p2, .ref p3, .ref p4, .ref p5]) (by walk_at "rt") fun l2 => ?_
    walk_at "w"
    refine RW.neD (d := zDD [x ++ [7], s ++ [7], t ++ [7], u ++ [7], v ++ [7]]) (e := zDD [x ++ [7], s ++ [7], t ++ [7], u ++ [7], v ++ [7]]) (Rd.lst (vs := [.ref p1, .ref p2, .ref p3, .ref p4, .ref p5]) (by walk_at "rl") (RdA.cons (Rd.z (by walk_at "rl")) (RdA.cons (Rd.z (by walk_at "rl")) (RdA.cons (Rd.z (by walk_at "rl")) (RdA.cons (Rd.z (by walk_at "rl")) (RdA.cons (Rd.z (by walk_at "rl")) RdA.nil))))))
      (Rd.lst (vs := [.ref d1, .ref d2, .ref d3, .ref d4, .ref d5]) (by walk_at "rl") (RdA.cons (Rd.z (by walk_at "rl")) (RdA.cons (Rd.z (by walk_at "rl")) (RdA.cons (Rd.z (by walk_at "rl")) (RdA.cons (Rd.z (by walk_at "rl")) (RdA.cons (Rd.z (by walk_at "rl")) RdA.nil)))))) (zDD_shaped _) (zDD_shaped _) ?_
    rw [zDD_eqv, decide_eq_true rfl]
    walk_at "w"
    walk_at "d"
    walk_at "w"
    refine WC_meet (xs := A) (ys := B) nb nb EE (by walk_at "rx") (by walk_at "rx") ⟨by omega, by omega⟩ hBu.ta hBu.tb hne ⟨hbA, hbB, by omega, by omega⟩ (fun h => Go.ee hsz h16 h) hEE (MtQ.ee hsz) fun x3 s3 t3 u3 v3 n3 a3 c3 d3' hM3 hE3 hx3 hu3 hv3 hn3 hMB3 hxl3 q1 q2 q3 q4 q5 qq => ?_
    have hF3 := FtB.of hE3 hx3 hu3 hv3 hn3 hMB3 hbA hbB h299
    have hsl3 : s3.length ≤ 9000 := by
      have := hM3.w1.len hM3.cb.xt hM3.ne
      omega
    have htl3 : t3.length ≤ 9000 := by
      have := hM3.w2.len hM3.cb.xt hM3.ne
      omega
    walk_at "d"
    walk_at "w"
    refine WC__law_fits (A := A) (B := B) (x := x3) (s := s3) (t := t3) (u := u3) (v := v3) (by walk_at "rx") (by walk_at "rx") (by walk_at "rx") (by walk_at "rx") (by walk_at "rx") (by walk_at "rx") (by walk_at "rx") (by walk_at "rx") hBu.ta hBu.tb hM3 hF3 ⟨by omega, by omega, by omega, hsl3, htl3, by omega, by omega⟩ ?_
    walk_at "w"
    refine WC__law_same (xs := A) (by walk_at "rx") (by walk_at "rx") (by omega) ?_
    walk_at "w"
    refine WC__law_same (xs := B) (by walk_at "rx") (by walk_at "rx") (by omega) ?_
    exact fun H' _ => q H'

end
open PySem PySem.Spec PyProof.Rows L2 in
theorem all_mk {l : PySem.W.OpenLaw} {w : World} {K : PySem.W.Frag} {h : Heap} {mg : Str → Option Value} {fa : Addr} (X : K.In h) (G : h.Ns mainGlobals mg) (hfa : mg "law" = some (.ref fa))
    {f_greatest f_content f_signed_content f_simple f_trimmed f_number_at f_minus f_scaled f_times f_divided f_quotient f_shared f_begun f_behind f_meet f__law_whole f__law_cell_at f__law_trim f__law_same f__law_number f__law_small f__law_drawn f__law_plus f__law_times f__law_row f__law_greatest f__law_content f__law_simple f__law_divides f__law_refused f__law_fits f__law_built f_law : Addr} {od_greatest an_greatest od_content an_content od_signed_content an_signed_content od_simple an_simple od_trimmed an_trimmed od_number_at an_number_at od_minus an_minus od_scaled an_scaled od_times an_times od_divided an_divided od_quotient an_quotient od_shared an_shared od_begun an_begun od_behind an_behind od_meet an_meet od__law_whole an__law_whole od__law_cell_at an__law_cell_at od__law_trim an__law_trim od__law_same an__law_same od__law_number an__law_number od__law_small an__law_small od__law_drawn an__law_drawn od__law_plus an__law_plus od__law_times an__law_times od__law_row an__law_row od__law_greatest an__law_greatest od__law_content an__law_content od__law_simple an__law_simple od__law_divides an__law_divides od__law_refused an__law_refused od__law_fits an__law_fits od__law_built an__law_built od_law an_law : Option Addr} {sl_greatest sl_content sl_signed_content sl_simple sl_trimmed sl_number_at sl_minus sl_scaled sl_times sl_divided sl_quotient sl_shared sl_begun sl_behind sl_meet sl__law_whole sl__law_cell_at sl__law_trim sl__law_same sl__law_number sl__law_small sl__law_drawn sl__law_plus sl__law_times sl__law_row sl__law_greatest sl__law_content sl__law_simple sl__law_divides sl__law_refused sl__law_fits sl__law_built sl_law : Array (Option Value)} {oc_greatest kV_greatest dc_greatest pm_greatest cd_greatest ct_greatest oc_content kV_content dc_content pm_content cd_content ct_content oc_signed_content kV_signed_content dc_signed_content pm_signed_content cd_signed_content ct_signed_content oc_simple kV_simple dc_simple pm_simple cd_simple ct_simple oc_trimmed kV_trimmed dc_trimmed pm_trimmed cd_trimmed ct_trimmed oc_number_at kV_number_at dc_number_at pm_number_at cd_number_at ct_number_at oc_minus kV_minus dc_minus pm_minus cd_minus ct_minus oc_scaled kV_scaled dc_scaled pm_scaled cd_scaled ct_scaled oc_times kV_times dc_times pm_times cd_times ct_times oc_divided kV_divided dc_divided pm_divided cd_divided ct_divided oc_quotient kV_quotient dc_quotient pm_quotient cd_quotient ct_quotient oc_shared kV_shared dc_shared pm_shared cd_shared ct_shared oc_begun kV_begun dc_begun pm_begun cd_begun ct_begun oc_behind kV_behind dc_behind pm_behind cd_behind ct_behind oc_meet kV_meet dc_meet pm_meet cd_meet ct_meet oc__law_whole kV__law_whole dc__law_whole pm__law_whole cd__law_whole ct__law_whole oc__law_cell_at kV__law_cell_at dc__law_cell_at pm__law_cell_at cd__law_cell_at ct__law_cell_at oc__law_trim kV__law_trim dc__law_trim pm__law_trim cd__law_trim ct__law_trim oc__law_same kV__law_same dc__law_same pm__law_same cd__law_same ct__law_same oc__law_number kV__law_number dc__law_number pm__law_number cd__law_number ct__law_number oc__law_small kV__law_small dc__law_small pm__law_small cd__law_small ct__law_small oc__law_drawn kV__law_drawn dc__law_drawn pm__law_drawn cd__law_drawn ct__law_drawn oc__law_plus kV__law_plus dc__law_plus pm__law_plus cd__law_plus ct__law_plus oc__law_times kV__law_times dc__law_times pm__law_times cd__law_times ct__law_times oc__law_row kV__law_row dc__law_row pm__law_row cd__law_row ct__law_row oc__law_greatest kV__law_greatest dc__law_greatest pm__law_greatest cd__law_greatest ct__law_greatest oc__law_content kV__law_content dc__law_content pm__law_content cd__law_content ct__law_content oc__law_simple kV__law_simple dc__law_simple pm__law_simple cd__law_simple ct__law_simple oc__law_divides kV__law_divides dc__law_divides pm__law_divides cd__law_divides ct__law_divides oc__law_refused kV__law_refused dc__law_refused pm__law_refused cd__law_refused ct__law_refused oc__law_fits kV__law_fits dc__law_fits pm__law_fits cd__law_fits ct__law_fits oc__law_built kV__law_built dc__law_built pm__law_built cd__law_built ct__law_built oc_law kV_law dc_law pm_law cd_law ct_law : Value}
    (a_greatest : PySem.W.nsIn K mainGlobals "greatest" = some (some (.ref f_greatest))) (l_greatest : K.lookup f_greatest = some ⟨oc_greatest, od_greatest, .func (PySem.W.fnOf "greatest" "greatest" (defArgs s_greatest) (defBody s_greatest) (defScope s_greatest) .none kV_greatest dc_greatest pm_greatest an_greatest cd_greatest ct_greatest), sl_greatest⟩) (c_greatest : PySem.W.codeIn K cd_greatest "greatest" = true) (k_greatest : PySem.W.keepIn K (.ref f_greatest) = true)
    (a_content : PySem.W.nsIn K mainGlobals "content" = some (some (.ref f_content))) (l_content : K.lookup f_content = some ⟨oc_content, od_content, .func (PySem.W.fnOf "content" "content" (defArgs s_content) (defBody s_content) (defScope s_content) .none kV_content dc_content pm_content an_content cd_content ct_content), sl_content⟩) (c_content : PySem.W.codeIn K cd_content "content" = true) (k_content : PySem.W.keepIn K (.ref f_content) = true)
    (a_signed_content : PySem.W.nsIn K mainGlobals "signed_content" = some (some (.ref f_signed_content))) (l_signed_content : K.lookup f_signed_content = some ⟨oc_signed_content, od_signed_content, .func (PySem.W.fnOf "signed_content" "signed_content" (defArgs s_signed_content) (defBody s_signed_content) (defScope s_signed_content) .none kV_signed_content dc_signed_content pm_signed_content an_signed_content cd_signed_content ct_signed_content), sl_signed_content⟩) (c_signed_content : PySem.W.codeIn K cd_signed_content "signed_content" = true) (k_signed_content : PySem.W.keepIn K (.ref f_signed_content) = true)
    (a_simple : PySem.W.nsIn K mainGlobals "simple" = some (some (.ref f_simple))) (l_simple : K.lookup f_simple = some ⟨oc_simple, od_simple, .func (PySem.W.fnOf "simple" "simple" (defArgs s_simple) (defBody s_simple) (defScope s_simple) .none kV_simple dc_simple pm_simple an_simple cd_simple ct_simple), sl_simple⟩) (c_simple : PySem.W.codeIn K cd_simple "simple" = true) (k_simple : PySem.W.keepIn K (.ref f_simple) = true)
    (a_trimmed : PySem.W.nsIn K mainGlobals "trimmed" = some (some (.ref f_trimmed))) (l_trimmed : K.lookup f_trimmed = some ⟨oc_trimmed, od_trimmed, .func (PySem.W.fnOf "trimmed" "trimmed" (defArgs s_trimmed) (defBody s_trimmed) (defScope s_trimmed) .none kV_trimmed dc_trimmed pm_trimmed an_trimmed cd_trimmed ct_trimmed), sl_trimmed⟩) (c_trimmed : PySem.W.codeIn K cd_trimmed "trimmed" = true) (k_trimmed : PySem.W.keepIn K (.ref f_trimmed) = true)
    (a_number_at : PySem.W.nsIn K mainGlobals "number_at" = some (some (.ref f_number_at))) (l_number_at : K.lookup f_number_at = some ⟨oc_number_at, od_number_at, .func (PySem.W.fnOf "number_at" "number_at" (defArgs s_number_at) (defBody s_number_at) (defScope s_number_at) .none kV_number_at dc_number_at pm_number_at an_number_at cd_number_at ct_number_at), sl_number_at⟩) (c_number_at : PySem.W.codeIn K cd_number_at "number_at" = true) (k_number_at : PySem.W.keepIn K (.ref f_number_at) = true)
    (a_minus : PySem.W.nsIn K mainGlobals "minus" = some (some (.ref f_minus))) (l_minus : K.lookup f_minus = some ⟨oc_minus, od_minus, .func (PySem.W.fnOf "minus" "minus" (defArgs s_minus) (defBody s_minus) (defScope s_minus) .none kV_minus dc_minus pm_minus an_minus cd_minus ct_minus), sl_minus⟩) (c_minus : PySem.W.codeIn K cd_minus "minus" = true) (k_minus : PySem.W.keepIn K (.ref f_minus) = true)
    (a_scaled : PySem.W.nsIn K mainGlobals "scaled" = some (some (.ref f_scaled))) (l_scaled : K.lookup f_scaled = some ⟨oc_scaled, od_scaled, .func (PySem.W.fnOf "scaled" "scaled" (defArgs s_scaled) (defBody s_scaled) (defScope s_scaled) .none kV_scaled dc_scaled pm_scaled an_scaled cd_scaled ct_scaled), sl_scaled⟩) (c_scaled : PySem.W.codeIn K cd_scaled "scaled" = true) (k_scaled : PySem.W.keepIn K (.ref f_scaled) = true)
    (a_times : PySem.W.nsIn K mainGlobals "times" = some (some (.ref f_times))) (l_times : K.lookup f_times = some ⟨oc_times, od_times, .func (PySem.W.fnOf "times" "times" (defArgs s_times) (defBody s_times) (defScope s_times) .none kV_times dc_times pm_times an_times cd_times ct_times), sl_times⟩) (c_times : PySem.W.codeIn K cd_times "times" = true) (k_times : PySem.W.keepIn K (.ref f_times) = true)
    (a_divided : PySem.W.nsIn K mainGlobals "divided" = some (some (.ref f_divided))) (l_divided : K.lookup f_divided = some ⟨oc_divided, od_divided, .func (PySem.W.fnOf "divided" "divided" (defArgs s_divided) (defBody s_divided) (defScope s_divided) .none kV_divided dc_divided pm_divided an_divided cd_divided ct_divided), sl_divided⟩) (c_divided : PySem.W.codeIn K cd_divided "divided" = true) (k_divided : PySem.W.keepIn K (.ref f_divided) = true)
    (a_quotient : PySem.W.nsIn K mainGlobals "quotient" = some (some (.ref f_quotient))) (l_quotient : K.lookup f_quotient = some ⟨oc_quotient, od_quotient, .func (PySem.W.fnOf "quotient" "quotient" (defArgs s_quotient) (defBody s_quotient) (defScope s_quotient) .none kV_quotient dc_quotient pm_quotient an_quotient cd_quotient ct_quotient), sl_quotient⟩) (c_quotient : PySem.W.codeIn K cd_quotient "quotient" = true) (k_quotient : PySem.W.keepIn K (.ref f_quotient) = true)
    (a_shared : PySem.W.nsIn K mainGlobals "shared" = some (some (.ref f_shared))) (l_shared : K.lookup f_shared = some ⟨oc_shared, od_shared, .func (PySem.W.fnOf "shared" "shared" (defArgs s_shared) (defBody s_shared) (defScope s_shared) .none kV_shared dc_shared pm_shared an_shared cd_shared ct_shared), sl_shared⟩) (c_shared : PySem.W.codeIn K cd_shared "shared" = true) (k_shared : PySem.W.keepIn K (.ref f_shared) = true)
    (a_begun : PySem.W.nsIn K mainGlobals "begun" = some (some (.ref f_begun))) (l_begun : K.lookup f_begun = some ⟨oc_begun, od_begun, .func (PySem.W.fnOf "begun" "begun" (defArgs s_begun) (defBody s_begun) (defScope s_begun) .none kV_begun dc_begun pm_begun an_begun cd_begun ct_begun), sl_begun⟩) (c_begun : PySem.W.codeIn K cd_begun "begun" = true) (k_begun : PySem.W.keepIn K (.ref f_begun) = true)
    (a_behind : PySem.W.nsIn K mainGlobals "behind" = some (some (.ref f_behind))) (l_behind : K.lookup f_behind = some ⟨oc_behind, od_behind, .func (PySem.W.fnOf "behind" "behind" (defArgs s_behind) (defBody s_behind) (defScope s_behind) .none kV_behind dc_behind pm_behind an_behind cd_behind ct_behind), sl_behind⟩) (c_behind : PySem.W.codeIn K cd_behind "behind" = true) (k_behind : PySem.W.keepIn K (.ref f_behind) = true)
    (a_meet : PySem.W.nsIn K mainGlobals "meet" = some (some (.ref f_meet))) (l_meet : K.lookup f_meet = some ⟨oc_meet, od_meet, .func (PySem.W.fnOf "meet" "meet" (defArgs s_meet) (defBody s_meet) (defScope s_meet) .none kV_meet dc_meet pm_meet an_meet cd_meet ct_meet), sl_meet⟩) (c_meet : PySem.W.codeIn K cd_meet "meet" = true) (k_meet : PySem.W.keepIn K (.ref f_meet) = true)
    (a__law_whole : PySem.W.nsIn K mainGlobals "_law_whole" = some (some (.ref f__law_whole))) (l__law_whole : K.lookup f__law_whole = some ⟨oc__law_whole, od__law_whole, .func (PySem.W.fnOf "_law_whole" "_law_whole" (defArgs s__law_whole) (defBody s__law_whole) (defScope s__law_whole) .none kV__law_whole dc__law_whole pm__law_whole an__law_whole cd__law_whole ct__law_whole), sl__law_whole⟩) (c__law_whole : PySem.W.codeIn K cd__law_whole "_law_whole" = true) (k__law_whole : PySem.W.keepIn K (.ref f__law_whole) = true)
    (a__law_cell_at : PySem.W.nsIn K mainGlobals "_law_cell_at" = some (some (.ref f__law_cell_at))) (l__law_cell_at : K.lookup f__law_cell_at = some ⟨oc__law_cell_at, od__law_cell_at, .func (PySem.W.fnOf "_law_cell_at" "_law_cell_at" (defArgs s__law_cell_at) (defBody s__law_cell_at) (defScope s__law_cell_at) .none kV__law_cell_at dc__law_cell_at pm__law_cell_at an__law_cell_at cd__law_cell_at ct__law_cell_at), sl__law_cell_at⟩) (c__law_cell_at : PySem.W.codeIn K cd__law_cell_at "_law_cell_at" = true) (k__law_cell_at : PySem.W.keepIn K (.ref f__law_cell_at) = true)
    (a__law_trim : PySem.W.nsIn K mainGlobals "_law_trim" = some (some (.ref f__law_trim))) (l__law_trim : K.lookup f__law_trim = some ⟨oc__law_trim, od__law_trim, .func (PySem.W.fnOf "_law_trim" "_law_trim" (defArgs s__law_trim) (defBody s__law_trim) (defScope s__law_trim) .none kV__law_trim dc__law_trim pm__law_trim an__law_trim cd__law_trim ct__law_trim), sl__law_trim⟩) (c__law_trim : PySem.W.codeIn K cd__law_trim "_law_trim" = true) (k__law_trim : PySem.W.keepIn K (.ref f__law_trim) = true)
    (a__law_same : PySem.W.nsIn K mainGlobals "_law_same" = some (some (.ref f__law_same))) (l__law_same : K.lookup f__law_same = some ⟨oc__law_same, od__law_same, .func (PySem.W.fnOf "_law_same" "_law_same" (defArgs s__law_same) (defBody s__law_same) (defScope s__law_same) .none kV__law_same dc__law_same pm__law_same an__law_same cd__law_same ct__law_same), sl__law_same⟩) (c__law_same : PySem.W.codeIn K cd__law_same "_law_same" = true) (k__law_same : PySem.W.keepIn K (.ref f__law_same) = true)
    (a__law_number : PySem.W.nsIn K mainGlobals "_law_number" = some (some (.ref f__law_number))) (l__law_number : K.lookup f__law_number = some ⟨oc__law_number, od__law_number, .func (PySem.W.fnOf "_law_number" "_law_number" (defArgs s__law_number) (defBody s__law_number) (defScope s__law_number) .none kV__law_number dc__law_number pm__law_number an__law_number cd__law_number ct__law_number), sl__law_number⟩) (c__law_number : PySem.W.codeIn K cd__law_number "_law_number" = true) (k__law_number : PySem.W.keepIn K (.ref f__law_number) = true)
    (a__law_small : PySem.W.nsIn K mainGlobals "_law_small" = some (some (.ref f__law_small))) (l__law_small : K.lookup f__law_small = some ⟨oc__law_small, od__law_small, .func (PySem.W.fnOf "_law_small" "_law_small" (defArgs s__law_small) (defBody s__law_small) (defScope s__law_small) .none kV__law_small dc__law_small pm__law_small an__law_small cd__law_small ct__law_small), sl__law_small⟩) (c__law_small : PySem.W.codeIn K cd__law_small "_law_small" = true) (k__law_small : PySem.W.keepIn K (.ref f__law_small) = true)
    (a__law_drawn : PySem.W.nsIn K mainGlobals "_law_drawn" = some (some (.ref f__law_drawn))) (l__law_drawn : K.lookup f__law_drawn = some ⟨oc__law_drawn, od__law_drawn, .func (PySem.W.fnOf "_law_drawn" "_law_drawn" (defArgs s__law_drawn) (defBody s__law_drawn) (defScope s__law_drawn) .none kV__law_drawn dc__law_drawn pm__law_drawn an__law_drawn cd__law_drawn ct__law_drawn), sl__law_drawn⟩) (c__law_drawn : PySem.W.codeIn K cd__law_drawn "_law_drawn" = true) (k__law_drawn : PySem.W.keepIn K (.ref f__law_drawn) = true)
    (a__law_plus : PySem.W.nsIn K mainGlobals "_law_plus" = some (some (.ref f__law_plus))) (l__law_plus : K.lookup f__law_plus = some ⟨oc__law_plus, od__law_plus, .func (PySem.W.fnOf "_law_plus" "_law_plus" (defArgs s__law_plus) (defBody s__law_plus) (defScope s__law_plus) .none kV__law_plus dc__law_plus pm__law_plus an__law_plus cd__law_plus ct__law_plus), sl__law_plus⟩) (c__law_plus : PySem.W.codeIn K cd__law_plus "_law_plus" = true) (k__law_plus : PySem.W.keepIn K (.ref f__law_plus) = true)
    (a__law_times : PySem.W.nsIn K mainGlobals "_law_times" = some (some (.ref f__law_times))) (l__law_times : K.lookup f__law_times = some ⟨oc__law_times, od__law_times, .func (PySem.W.fnOf "_law_times" "_law_times" (defArgs s__law_times) (defBody s__law_times) (defScope s__law_times) .none kV__law_times dc__law_times pm__law_times an__law_times cd__law_times ct__law_times), sl__law_times⟩) (c__law_times : PySem.W.codeIn K cd__law_times "_law_times" = true) (k__law_times : PySem.W.keepIn K (.ref f__law_times) = true)
    (a__law_row : PySem.W.nsIn K mainGlobals "_law_row" = some (some (.ref f__law_row))) (l__law_row : K.lookup f__law_row = some ⟨oc__law_row, od__law_row, .func (PySem.W.fnOf "_law_row" "_law_row" (defArgs s__law_row) (defBody s__law_row) (defScope s__law_row) .none kV__law_row dc__law_row pm__law_row an__law_row cd__law_row ct__law_row), sl__law_row⟩) (c__law_row : PySem.W.codeIn K cd__law_row "_law_row" = true) (k__law_row : PySem.W.keepIn K (.ref f__law_row) = true)
    (a__law_greatest : PySem.W.nsIn K mainGlobals "_law_greatest" = some (some (.ref f__law_greatest))) (l__law_greatest : K.lookup f__law_greatest = some ⟨oc__law_greatest, od__law_greatest, .func (PySem.W.fnOf "_law_greatest" "_law_greatest" (defArgs s__law_greatest) (defBody s__law_greatest) (defScope s__law_greatest) .none kV__law_greatest dc__law_greatest pm__law_greatest an__law_greatest cd__law_greatest ct__law_greatest), sl__law_greatest⟩) (c__law_greatest : PySem.W.codeIn K cd__law_greatest "_law_greatest" = true) (k__law_greatest : PySem.W.keepIn K (.ref f__law_greatest) = true)
    (a__law_content : PySem.W.nsIn K mainGlobals "_law_content" = some (some (.ref f__law_content))) (l__law_content : K.lookup f__law_content = some ⟨oc__law_content, od__law_content, .func (PySem.W.fnOf "_law_content" "_law_content" (defArgs s__law_content) (defBody s__law_content) (defScope s__law_content) .none kV__law_content dc__law_content pm__law_content an__law_content cd__law_content ct__law_content), sl__law_content⟩) (c__law_content : PySem.W.codeIn K cd__law_content "_law_content" = true) (k__law_content : PySem.W.keepIn K (.ref f__law_content) = true)
    (a__law_simple : PySem.W.nsIn K mainGlobals "_law_simple" = some (some (.ref f__law_simple))) (l__law_simple : K.lookup f__law_simple = some ⟨oc__law_simple, od__law_simple, .func (PySem.W.fnOf "_law_simple" "_law_simple" (defArgs s__law_simple) (defBody s__law_simple) (defScope s__law_simple) .none kV__law_simple dc__law_simple pm__law_simple an__law_simple cd__law_simple ct__law_simple), sl__law_simple⟩) (c__law_simple : PySem.W.codeIn K cd__law_simple "_law_simple" = true) (k__law_simple : PySem.W.keepIn K (.ref f__law_simple) = true)
    (a__law_divides : PySem.W.nsIn K mainGlobals "_law_divides" = some (some (.ref f__law_divides))) (l__law_divides : K.lookup f__law_divides = some ⟨oc__law_divides, od__law_divides, .func (PySem.W.fnOf "_law_divides" "_law_divides" (defArgs s__law_divides) (defBody s__law_divides) (defScope s__law_divides) .none kV__law_divides dc__law_divides pm__law_divides an__law_divides cd__law_divides ct__law_divides), sl__law_divides⟩) (c__law_divides : PySem.W.codeIn K cd__law_divides "_law_divides" = true) (k__law_divides : PySem.W.keepIn K (.ref f__law_divides) = true)
    (a__law_refused : PySem.W.nsIn K mainGlobals "_law_refused" = some (some (.ref f__law_refused))) (l__law_refused : K.lookup f__law_refused = some ⟨oc__law_refused, od__law_refused, .func (PySem.W.fnOf "_law_refused" "_law_refused" (defArgs s__law_refused) (defBody s__law_refused) (defScope s__law_refused) .none kV__law_refused dc__law_refused pm__law_refused an__law_refused cd__law_refused ct__law_refused), sl__law_refused⟩) (c__law_refused : PySem.W.codeIn K cd__law_refused "_law_refused" = true) (k__law_refused : PySem.W.keepIn K (.ref f__law_refused) = true)
    (a__law_fits : PySem.W.nsIn K mainGlobals "_law_fits" = some (some (.ref f__law_fits))) (l__law_fits : K.lookup f__law_fits = some ⟨oc__law_fits, od__law_fits, .func (PySem.W.fnOf "_law_fits" "_law_fits" (defArgs s__law_fits) (defBody s__law_fits) (defScope s__law_fits) .none kV__law_fits dc__law_fits pm__law_fits an__law_fits cd__law_fits ct__law_fits), sl__law_fits⟩) (c__law_fits : PySem.W.codeIn K cd__law_fits "_law_fits" = true) (k__law_fits : PySem.W.keepIn K (.ref f__law_fits) = true)
    (a__law_built : PySem.W.nsIn K mainGlobals "_law_built" = some (some (.ref f__law_built))) (l__law_built : K.lookup f__law_built = some ⟨oc__law_built, od__law_built, .func (PySem.W.fnOf "_law_built" "_law_built" (defArgs s__law_built) (defBody s__law_built) (defScope s__law_built) .none kV__law_built dc__law_built pm__law_built an__law_built cd__law_built ct__law_built), sl__law_built⟩) (c__law_built : PySem.W.codeIn K cd__law_built "_law_built" = true) (k__law_built : PySem.W.keepIn K (.ref f__law_built) = true)
    (a_law : PySem.W.nsIn K mainGlobals "law" = some (some (.ref f_law))) (l_law : K.lookup f_law = some ⟨oc_law, od_law, .func (PySem.W.fnOf "law" "law" (defArgs s_law) (defBody s_law) (defScope s_law) .none kV_law dc_law pm_law an_law cd_law ct_law), sl_law⟩) (c_law : PySem.W.codeIn K cd_law "law" = true) (k_law : PySem.W.keepIn K (.ref f_law) = true)
    {A_PolyError : Addr} (g_PolyError : PySem.W.nsIn K mainGlobals "PolyError" = some (some (.ref A_PolyError))) (x_PolyError : PySem.W.excIn K A_PolyError veT "ValueError.__new__" = true) (k_PolyError : PySem.W.keepIn K (.ref A_PolyError) = true) (b_PolyError : PySem.W.subIn K (.ref A_PolyError) (.type "BaseException") = some true) (t_PolyError : PySem.W.typeIn K (.ref A_PolyError) = some (.type "type")) (h_PolyError : PySem.W.hasDictIn K A_PolyError = true)
    (ig_PolyError : PySem.W.findIn K (.ref A_PolyError) "__getattribute__" = some (some (.builtin "BaseException.__getattribute__"))) (ik_PolyError : PySem.W.findIn K (.ref A_PolyError) "__getattr__" = some none) (ia_PolyError : PySem.W.findIn K (.ref A_PolyError) "__class__" = some (some (.builtin "object.__class__"))) (in_PolyError : PySem.W.specialIn K (.builtin "object.__class__") "__get__" = some (some (.builtin "getset_descriptor.__get__"))) (it_PolyError : PySem.W.takesIn K (.builtin "object.__class__") = some true) (im_PolyError : PySem.W.mroIn K A_PolyError (.type "object") = some true) (v_PolyError : PySem.W.subIn K (.ref A_PolyError) (.type "ValueError") = some true)
    {A_ByNought : Addr} (g_ByNought : PySem.W.nsIn K mainGlobals "ByNought" = some (some (.ref A_ByNought))) (x_ByNought : PySem.W.excIn K A_ByNought veT "ValueError.__new__" = true) (k_ByNought : PySem.W.keepIn K (.ref A_ByNought) = true) (b_ByNought : PySem.W.subIn K (.ref A_ByNought) (.type "BaseException") = some true) (t_ByNought : PySem.W.typeIn K (.ref A_ByNought) = some (.type "type")) (h_ByNought : PySem.W.hasDictIn K A_ByNought = true)
    (ig_ByNought : PySem.W.findIn K (.ref A_ByNought) "__getattribute__" = some (some (.builtin "BaseException.__getattribute__"))) (ik_ByNought : PySem.W.findIn K (.ref A_ByNought) "__getattr__" = some none) (ia_ByNought : PySem.W.findIn K (.ref A_ByNought) "__class__" = some (some (.builtin "object.__class__"))) (in_ByNought : PySem.W.specialIn K (.builtin "object.__class__") "__get__" = some (some (.builtin "getset_descriptor.__get__"))) (it_ByNought : PySem.W.takesIn K (.builtin "object.__class__") = some true) (im_ByNought : PySem.W.mroIn K A_ByNought (.type "object") = some true) (v_ByNought : PySem.W.subIn K (.ref A_ByNought) (.type "ValueError") = some true)
    {A_NotWhole : Addr} (g_NotWhole : PySem.W.nsIn K mainGlobals "NotWhole" = some (some (.ref A_NotWhole))) (x_NotWhole : PySem.W.excIn K A_NotWhole veT "ValueError.__new__" = true) (k_NotWhole : PySem.W.keepIn K (.ref A_NotWhole) = true) (b_NotWhole : PySem.W.subIn K (.ref A_NotWhole) (.type "BaseException") = some true) (t_NotWhole : PySem.W.typeIn K (.ref A_NotWhole) = some (.type "type")) (h_NotWhole : PySem.W.hasDictIn K A_NotWhole = true)
    (ig_NotWhole : PySem.W.findIn K (.ref A_NotWhole) "__getattribute__" = some (some (.builtin "BaseException.__getattribute__"))) (ik_NotWhole : PySem.W.findIn K (.ref A_NotWhole) "__getattr__" = some none) (ia_NotWhole : PySem.W.findIn K (.ref A_NotWhole) "__class__" = some (some (.builtin "object.__class__"))) (in_NotWhole : PySem.W.specialIn K (.builtin "object.__class__") "__get__" = some (some (.builtin "getset_descriptor.__get__"))) (it_NotWhole : PySem.W.takesIn K (.builtin "object.__class__") = some true) (im_NotWhole : PySem.W.mroIn K A_NotWhole (.type "object") = some true) (v_NotWhole : PySem.W.subIn K (.ref A_NotWhole) (.type "ValueError") = some true)
    {A_NoMeet : Addr} (g_NoMeet : PySem.W.nsIn K mainGlobals "NoMeet" = some (some (.ref A_NoMeet))) (x_NoMeet : PySem.W.excIn K A_NoMeet veT "ValueError.__new__" = true) (k_NoMeet : PySem.W.keepIn K (.ref A_NoMeet) = true) (b_NoMeet : PySem.W.subIn K (.ref A_NoMeet) (.type "BaseException") = some true) (t_NoMeet : PySem.W.typeIn K (.ref A_NoMeet) = some (.type "type")) (h_NoMeet : PySem.W.hasDictIn K A_NoMeet = true)
    (ig_NoMeet : PySem.W.findIn K (.ref A_NoMeet) "__getattribute__" = some (some (.builtin "BaseException.__getattribute__"))) (ik_NoMeet : PySem.W.findIn K (.ref A_NoMeet) "__getattr__" = some none) (ia_NoMeet : PySem.W.findIn K (.ref A_NoMeet) "__class__" = some (some (.builtin "object.__class__"))) (in_NoMeet : PySem.W.specialIn K (.builtin "object.__class__") "__get__" = some (some (.builtin "getset_descriptor.__get__"))) (it_NoMeet : PySem.W.takesIn K (.builtin "object.__class__") = some true) (im_NoMeet : PySem.W.mroIn K A_NoMeet (.type "object") = some true) (v_NoMeet : PySem.W.subIn K (.ref A_NoMeet) (.type "ValueError") = some true)
    (u_NoMeet_PolyError : PySem.W.subIn K (.ref A_NoMeet) (.ref A_PolyError) = some true)
    (u_NoMeet_NoMeet : PySem.W.subIn K (.ref A_NoMeet) (.ref A_NoMeet) = some true)
    (z_ValueError : PySem.W.nsIn K mainGlobals "ValueError" = some none)
    (z_abs : PySem.W.nsIn K mainGlobals "abs" = some none)
    (z_bool : PySem.W.nsIn K mainGlobals "bool" = some none)
    (z_int : PySem.W.nsIn K mainGlobals "int" = some none)
    (z_isinstance : PySem.W.nsIn K mainGlobals "isinstance" = some none)
    (z_len : PySem.W.nsIn K mainGlobals "len" = some none)
    (z_list : PySem.W.nsIn K mainGlobals "list" = some none)
    (z_max : PySem.W.nsIn K mainGlobals "max" = some none)
    (z_range : PySem.W.nsIn K mainGlobals "range" = some none)
    (z_tuple : PySem.W.nsIn K mainGlobals "tuple" = some none)
    (tr : l.prog.given.tree = none) :
    ∃ fd : FuncData, (∀ (s : Shared) (v : Value), BindsTo s fd ⟨[v], []⟩ [("_law_script", v)]) ∧ ∀ base : Heap, K.In base → base.Ns mainGlobals mg → base.NoSeer → FnOk l.prog w K mg base CX0 48 fa fd ["_law_script"] (sp_law K) := by
  have e := hfa.symm.trans (PySem.W.mg_of X G a_law)
  cases e
  have F_greatest := fun_mk (st := s_greatest) l_greatest c_greatest k_greatest
  have b_greatest := F_greatest.binds (ps := ["one", "other"]) fun _ _ _ _ _ _ us hl => match us, hl with | [_, _], _ => rfl
  have F_content := fun_mk (st := s_content) l_content c_content k_content
  have b_content := F_content.binds (ps := ["row"]) fun _ _ _ _ _ _ us hl => match us, hl with | [_], _ => rfl
  have F_signed_content := fun_mk (st := s_signed_content) l_signed_content c_signed_content k_signed_content
  have b_signed_content := F_signed_content.binds (ps := ["row"]) fun _ _ _ _ _ _ us hl => match us, hl with | [_], _ => rfl
  have F_simple := fun_mk (st := s_simple) l_simple c_simple k_simple
  have b_simple := F_simple.binds (ps := ["row"]) fun _ _ _ _ _ _ us hl => match us, hl with | [_], _ => rfl
  have F_trimmed := fun_mk (st := s_trimmed) l_trimmed c_trimmed k_trimmed
  have b_trimmed := F_trimmed.binds (ps := ["row"]) fun _ _ _ _ _ _ us hl => match us, hl with | [_], _ => rfl
  have F_number_at := fun_mk (st := s_number_at) l_number_at c_number_at k_number_at
  have b_number_at := F_number_at.binds (ps := ["row", "place"]) fun _ _ _ _ _ _ us hl => match us, hl with | [_, _], _ => rfl
  have F_minus := fun_mk (st := s_minus) l_minus c_minus k_minus
  have b_minus := F_minus.binds (ps := ["ones", "others"]) fun _ _ _ _ _ _ us hl => match us, hl with | [_, _], _ => rfl
  have F_scaled := fun_mk (st := s_scaled) l_scaled c_scaled k_scaled
  have b_scaled := F_scaled.binds (ps := ["row", "many"]) fun _ _ _ _ _ _ us hl => match us, hl with | [_, _], _ => rfl
  have F_times := fun_mk (st := s_times) l_times c_times k_times
  have b_times := F_times.binds (ps := ["ones", "others"]) fun _ _ _ _ _ _ us hl => match us, hl with | [_, _], _ => rfl
  have F_divided := fun_mk (st := s_divided) l_divided c_divided k_divided
  have b_divided := F_divided.binds (ps := ["row", "by"]) fun _ _ _ _ _ _ us hl => match us, hl with | [_, _], _ => rfl
  have F_quotient := fun_mk (st := s_quotient) l_quotient c_quotient k_quotient
  have b_quotient := F_quotient.binds (ps := ["row", "by"]) fun _ _ _ _ _ _ us hl => match us, hl with | [_, _], _ => rfl
  have F_shared := fun_mk (st := s_shared) l_shared c_shared k_shared
  have b_shared := F_shared.binds (ps := ["row", "ones", "others", "many"]) fun _ _ _ _ _ _ us hl => match us, hl with | [_, _, _, _], _ => rfl
  have F_begun := fun_mk (st := s_begun) l_begun c_begun k_begun
  have b_begun := F_begun.binds (ps := ["row", "first"]) fun _ _ _ _ _ _ us hl => match us, hl with | [_, _], _ => rfl
  have F_behind := fun_mk (st := s_behind) l_behind c_behind k_behind
  have b_behind := F_behind.binds (ps := ["here", "there"]) fun _ _ _ _ _ _ us hl => match us, hl with | [_, _], _ => rfl
  have F_meet := fun_mk (st := s_meet) l_meet c_meet k_meet
  have b_meet := F_meet.binds (ps := ["ones", "others"]) fun _ _ _ _ _ _ us hl => match us, hl with | [_, _], _ => rfl
  have F__law_whole := fun_mk (st := s__law_whole) l__law_whole c__law_whole k__law_whole
  have b__law_whole := F__law_whole.binds (ps := ["_law_found"]) fun _ _ _ _ _ _ us hl => match us, hl with | [_], _ => rfl
  have F__law_cell_at := fun_mk (st := s__law_cell_at) l__law_cell_at c__law_cell_at k__law_cell_at
  have b__law_cell_at := F__law_cell_at.binds (ps := ["_law_script", "_law_k"]) fun _ _ _ _ _ _ us hl => match us, hl with | [_, _], _ => rfl
  have F__law_trim := fun_mk (st := s__law_trim) l__law_trim c__law_trim k__law_trim
  have b__law_trim := F__law_trim.binds (ps := ["_law_row_here"]) fun _ _ _ _ _ _ us hl => match us, hl with | [_], _ => rfl
  have F__law_same := fun_mk (st := s__law_same) l__law_same c__law_same k__law_same
  have b__law_same := F__law_same.binds (ps := ["_law_found", "_law_due"]) fun _ _ _ _ _ _ us hl => match us, hl with | [_, _], _ => rfl
  have F__law_number := fun_mk (st := s__law_number) l__law_number c__law_number k__law_number
  have b__law_number := F__law_number.binds (ps := ["_law_cell"]) fun _ _ _ _ _ _ us hl => match us, hl with | [_], _ => rfl
  have F__law_small := fun_mk (st := s__law_small) l__law_small c__law_small k__law_small
  have b__law_small := F__law_small.binds (ps := ["_law_cell"]) fun _ _ _ _ _ _ us hl => match us, hl with | [_], _ => rfl
  have F__law_drawn := fun_mk (st := s__law_drawn) l__law_drawn c__law_drawn k__law_drawn
  have b__law_drawn := F__law_drawn.binds (ps := ["_law_script", "_law_place", "_law_size", "_law_many"]) fun _ _ _ _ _ _ us hl => match us, hl with | [_, _, _, _], _ => rfl
  have F__law_plus := fun_mk (st := s__law_plus) l__law_plus c__law_plus k__law_plus
  have b__law_plus := F__law_plus.binds (ps := ["_law_ones", "_law_others"]) fun _ _ _ _ _ _ us hl => match us, hl with | [_, _], _ => rfl
  have F__law_times := fun_mk (st := s__law_times) l__law_times c__law_times k__law_times
  have b__law_times := F__law_times.binds (ps := ["_law_ones", "_law_others"]) fun _ _ _ _ _ _ us hl => match us, hl with | [_, _], _ => rfl
  have F__law_row := fun_mk (st := s__law_row) l__law_row c__law_row k__law_row
  have b__law_row := F__law_row.binds (ps := ["_law_found"]) fun _ _ _ _ _ _ us hl => match us, hl with | [_], _ => rfl
  have F__law_greatest := fun_mk (st := s__law_greatest) l__law_greatest c__law_greatest k__law_greatest
  have b__law_greatest := F__law_greatest.binds (ps := ["_law_one", "_law_other"]) fun _ _ _ _ _ _ us hl => match us, hl with | [_, _], _ => rfl
  have F__law_content := fun_mk (st := s__law_content) l__law_content c__law_content k__law_content
  have b__law_content := F__law_content.binds (ps := ["_law_row_here"]) fun _ _ _ _ _ _ us hl => match us, hl with | [_], _ => rfl
  have F__law_simple := fun_mk (st := s__law_simple) l__law_simple c__law_simple k__law_simple
  have b__law_simple := F__law_simple.binds (ps := ["_law_row_here"]) fun _ _ _ _ _ _ us hl => match us, hl with | [_], _ => rfl
  have F__law_divides := fun_mk (st := s__law_divides) l__law_divides c__law_divides k__law_divides
  have b__law_divides := F__law_divides.binds (ps := ["_law_by", "_law_row_here"]) fun _ _ _ _ _ _ us hl => match us, hl with | [_, _], _ => rfl
  have F__law_refused := fun_mk (st := s__law_refused) l__law_refused c__law_refused k__law_refused
  have b__law_refused := F__law_refused.binds (ps := ["_law_base"]) fun _ _ _ _ _ _ us hl => match us, hl with | [_], _ => rfl
  have F__law_fits := fun_mk (st := s__law_fits) l__law_fits c__law_fits k__law_fits
  have b__law_fits := F__law_fits.binds (ps := ["_law_found", "_law_ones", "_law_others"]) fun _ _ _ _ _ _ us hl => match us, hl with | [_, _, _], _ => rfl
  have F__law_built := fun_mk (st := s__law_built) l__law_built c__law_built k__law_built
  have b__law_built := F__law_built.binds (ps := ["_law_script"]) fun _ _ _ _ _ _ us hl => match us, hl with | [_], _ => rfl
  have F_law := fun_mk (st := s_law) l_law c_law k_law
  have b_law := F_law.binds (ps := ["_law_script"]) fun _ _ _ _ _ _ us hl => match us, hl with | [_], _ => rfl
  let T : Txt0 K mg := {
    a_greatest := _, d_greatest := _, F_greatest := F_greatest, m_greatest := PySem.W.mg_of X G a_greatest, b_greatest := b_greatest,
    a_content := _, d_content := _, F_content := F_content, m_content := PySem.W.mg_of X G a_content, b_content := b_content,
    a_signed_content := _, d_signed_content := _, F_signed_content := F_signed_content, m_signed_content := PySem.W.mg_of X G a_signed_content, b_signed_content := b_signed_content,
    a_simple := _, d_simple := _, F_simple := F_simple, m_simple := PySem.W.mg_of X G a_simple, b_simple := b_simple,
    a_trimmed := _, d_trimmed := _, F_trimmed := F_trimmed, m_trimmed := PySem.W.mg_of X G a_trimmed, b_trimmed := b_trimmed,
    a_number_at := _, d_number_at := _, F_number_at := F_number_at, m_number_at := PySem.W.mg_of X G a_number_at, b_number_at := b_number_at,
    a_minus := _, d_minus := _, F_minus := F_minus, m_minus := PySem.W.mg_of X G a_minus, b_minus := b_minus,
    a_scaled := _, d_scaled := _, F_scaled := F_scaled, m_scaled := PySem.W.mg_of X G a_scaled, b_scaled := b_scaled,
    a_times := _, d_times := _, F_times := F_times, m_times := PySem.W.mg_of X G a_times, b_times := b_times,
    a_divided := _, d_divided := _, F_divided := F_divided, m_divided := PySem.W.mg_of X G a_divided, b_divided := b_divided,
    a_quotient := _, d_quotient := _, F_quotient := F_quotient, m_quotient := PySem.W.mg_of X G a_quotient, b_quotient := b_quotient,
    a_shared := _, d_shared := _, F_shared := F_shared, m_shared := PySem.W.mg_of X G a_shared, b_shared := b_shared,
    a_begun := _, d_begun := _, F_begun := F_begun, m_begun := PySem.W.mg_of X G a_begun, b_begun := b_begun,
    a_behind := _, d_behind := _, F_behind := F_behind, m_behind := PySem.W.mg_of X G a_behind, b_behind := b_behind,
    a_meet := _, d_meet := _, F_meet := F_meet, m_meet := PySem.W.mg_of X G a_meet, b_meet := b_meet,
    a__law_whole := _, d__law_whole := _, F__law_whole := F__law_whole, m__law_whole := PySem.W.mg_of X G a__law_whole, b__law_whole := b__law_whole,
    a__law_cell_at := _, d__law_cell_at := _, F__law_cell_at := F__law_cell_at, m__law_cell_at := PySem.W.mg_of X G a__law_cell_at, b__law_cell_at := b__law_cell_at,
    a__law_trim := _, d__law_trim := _, F__law_trim := F__law_trim, m__law_trim := PySem.W.mg_of X G a__law_trim, b__law_trim := b__law_trim,
    a__law_same := _, d__law_same := _, F__law_same := F__law_same, m__law_same := PySem.W.mg_of X G a__law_same, b__law_same := b__law_same,
    a__law_number := _, d__law_number := _, F__law_number := F__law_number, m__law_number := PySem.W.mg_of X G a__law_number, b__law_number := b__law_number,
    a__law_small := _, d__law_small := _, F__law_small := F__law_small, m__law_small := PySem.W.mg_of X G a__law_small, b__law_small := b__law_small,
    a__law_drawn := _, d__law_drawn := _, F__law_drawn := F__law_drawn, m__law_drawn := PySem.W.mg_of X G a__law_drawn, b__law_drawn := b__law_drawn,
    a__law_plus := _, d__law_plus := _, F__law_plus := F__law_plus, m__law_plus := PySem.W.mg_of X G a__law_plus, b__law_plus := b__law_plus,
    a__law_times := _, d__law_times := _, F__law_times := F__law_times, m__law_times := PySem.W.mg_of X G a__law_times, b__law_times := b__law_times,
    a__law_row := _, d__law_row := _, F__law_row := F__law_row, m__law_row := PySem.W.mg_of X G a__law_row, b__law_row := b__law_row,
    a__law_greatest := _, d__law_greatest := _, F__law_greatest := F__law_greatest, m__law_greatest := PySem.W.mg_of X G a__law_greatest, b__law_greatest := b__law_greatest,
    a__law_content := _, d__law_content := _, F__law_content := F__law_content, m__law_content := PySem.W.mg_of X G a__law_content, b__law_content := b__law_content,
    a__law_simple := _, d__law_simple := _, F__law_simple := F__law_simple, m__law_simple := PySem.W.mg_of X G a__law_simple, b__law_simple := b__law_simple,
    a__law_divides := _, d__law_divides := _, F__law_divides := F__law_divides, m__law_divides := PySem.W.mg_of X G a__law_divides, b__law_divides := b__law_divides,
    a__law_refused := _, d__law_refused := _, F__law_refused := F__law_refused, m__law_refused := PySem.W.mg_of X G a__law_refused, b__law_refused := b__law_refused,
    a__law_fits := _, d__law_fits := _, F__law_fits := F__law_fits, m__law_fits := PySem.W.mg_of X G a__law_fits, b__law_fits := b__law_fits,
    a__law_built := _, d__law_built := _, F__law_built := F__law_built, m__law_built := PySem.W.mg_of X G a__law_built, b__law_built := b__law_built,
    a_law := _, d_law := _, F_law := F_law, m_law := PySem.W.mg_of X G a_law, b_law := b_law,
    A_PolyError := A_PolyError, e_PolyError := ⟨PySem.W.mg_of X G g_PolyError, x_PolyError, k_PolyError, b_PolyError, t_PolyError, h_PolyError, ⟨ig_PolyError, ik_PolyError, b_PolyError, h_PolyError, ia_PolyError, in_PolyError, it_PolyError, im_PolyError⟩, kit_ve v_PolyError⟩,
    A_ByNought := A_ByNought, e_ByNought := ⟨PySem.W.mg_of X G g_ByNought, x_ByNought, k_ByNought, b_ByNought, t_ByNought, h_ByNought, ⟨ig_ByNought, ik_ByNought, b_ByNought, h_ByNought, ia_ByNought, in_ByNought, it_ByNought, im_ByNought⟩, kit_ve v_ByNought⟩,
    A_NotWhole := A_NotWhole, e_NotWhole := ⟨PySem.W.mg_of X G g_NotWhole, x_NotWhole, k_NotWhole, b_NotWhole, t_NotWhole, h_NotWhole, ⟨ig_NotWhole, ik_NotWhole, b_NotWhole, h_NotWhole, ia_NotWhole, in_NotWhole, it_NotWhole, im_NotWhole⟩, kit_ve v_NotWhole⟩,
    A_NoMeet := A_NoMeet, e_NoMeet := ⟨PySem.W.mg_of X G g_NoMeet, x_NoMeet, k_NoMeet, b_NoMeet, t_NoMeet, h_NoMeet, ⟨ig_NoMeet, ik_NoMeet, b_NoMeet, h_NoMeet, ia_NoMeet, in_NoMeet, it_NoMeet, im_NoMeet⟩, kit_ve v_NoMeet⟩,
    u_NoMeet_PolyError := PySem.W.exm_ref b_PolyError h_PolyError t_PolyError u_NoMeet_PolyError,
    u_NoMeet_NoMeet := PySem.W.exm_ref b_NoMeet h_NoMeet t_NoMeet u_NoMeet_NoMeet,
    z_ValueError := PySem.W.mg_none_of X G z_ValueError, z_abs := PySem.W.mg_none_of X G z_abs, z_bool := PySem.W.mg_none_of X G z_bool, z_int := PySem.W.mg_none_of X G z_int, z_isinstance := PySem.W.mg_none_of X G z_isinstance, z_len := PySem.W.mg_none_of X G z_len, z_list := PySem.W.mg_none_of X G z_list, z_max := PySem.W.mg_none_of X G z_max, z_range := PySem.W.mg_none_of X G z_range, z_tuple := PySem.W.mg_none_of X G z_tuple }
  exact ⟨_, fun s v => .of_eq rfl, fun base _ _ hS => ok_law (⟨T, hS, tr⟩ : Txt l.prog K mg base)⟩
end Pa
open PySem PySem.W PyProof.Rows
set_option maxHeartbeats 0 in
theorem PySem.Challenge.cw_polyarith_k09_meet_holds : PySem.Challenge.rw_polyarith_k09_meet.Holds := by
  w_on; o_law; k_head; (case hw => w_witness2)
  k_fill
  refine Pa.walk_ofS (l := PySem.Challenge.rw_polyarith_k09_meet) (n := 63) (k := 48) (x := "_law_script") (sp := fun w => Pa.sp_law _) rfl (by decide) rfl ⟨rfl, by decide, by decide⟩ (by decide +kernel) (fun w h Y => PySem.W.kIn_of Y) ?F (fun _ _ a ns hl _ hS => ⟨a, ns, rfl, hS, hl, fun _ => rfl⟩)
  case F =>
    intro w mg fa h KX G hmg
    refine' Pa.all_mk KX G hmg ?a_greatest ?l_greatest ?c_greatest ?k_greatest ?a_content ?l_content ?c_content ?k_content ?a_signed_content ?l_signed_content ?c_signed_content ?k_signed_content ?a_simple ?l_simple ?c_simple ?k_simple ?a_trimmed ?l_trimmed ?c_trimmed ?k_trimmed ?a_number_at ?l_number_at ?c_number_at ?k_number_at ?a_minus ?l_minus ?c_minus ?k_minus ?a_scaled ?l_scaled ?c_scaled ?k_scaled ?a_times ?l_times ?c_times ?k_times ?a_divided ?l_divided ?c_divided ?k_divided ?a_quotient ?l_quotient ?c_quotient ?k_quotient ?a_shared ?l_shared ?c_shared ?k_shared ?a_begun ?l_begun ?c_begun ?k_begun ?a_behind ?l_behind ?c_behind ?k_behind ?a_meet ?l_meet ?c_meet ?k_meet ?a__law_whole ?l__law_whole ?c__law_whole ?k__law_whole ?a__law_cell_at ?l__law_cell_at ?c__law_cell_at ?k__law_cell_at ?a__law_trim ?l__law_trim ?c__law_trim ?k__law_trim ?a__law_same ?l__law_same ?c__law_same ?k__law_same ?a__law_number ?l__law_number ?c__law_number ?k__law_number ?a__law_small ?l__law_small ?c__law_small ?k__law_small ?a__law_drawn ?l__law_drawn ?c__law_drawn ?k__law_drawn ?a__law_plus ?l__law_plus ?c__law_plus ?k__law_plus ?a__law_times ?l__law_times ?c__law_times ?k__law_times ?a__law_row ?l__law_row ?c__law_row ?k__law_row ?a__law_greatest ?l__law_greatest ?c__law_greatest ?k__law_greatest ?a__law_content ?l__law_content ?c__law_content ?k__law_content ?a__law_simple ?l__law_simple ?c__law_simple ?k__law_simple ?a__law_divides ?l__law_divides ?c__law_divides ?k__law_divides ?a__law_refused ?l__law_refused ?c__law_refused ?k__law_refused ?a__law_fits ?l__law_fits ?c__law_fits ?k__law_fits ?a__law_built ?l__law_built ?c__law_built ?k__law_built ?a_law ?l_law ?c_law ?k_law ?g_PolyError ?x_PolyError ?k_PolyError ?b_PolyError ?t_PolyError ?h_PolyError ?ig_PolyError ?ik_PolyError ?ia_PolyError ?in_PolyError ?it_PolyError ?im_PolyError ?v_PolyError ?g_ByNought ?x_ByNought ?k_ByNought ?b_ByNought ?t_ByNought ?h_ByNought ?ig_ByNought ?ik_ByNought ?ia_ByNought ?in_ByNought ?it_ByNought ?im_ByNought ?v_ByNought ?g_NotWhole ?x_NotWhole ?k_NotWhole ?b_NotWhole ?t_NotWhole ?h_NotWhole ?ig_NotWhole ?ik_NotWhole ?ia_NotWhole ?in_NotWhole ?it_NotWhole ?im_NotWhole ?v_NotWhole ?g_NoMeet ?x_NoMeet ?k_NoMeet ?b_NoMeet ?t_NoMeet ?h_NoMeet ?ig_NoMeet ?ik_NoMeet ?ia_NoMeet ?in_NoMeet ?it_NoMeet ?im_NoMeet ?v_NoMeet ?u_NoMeet_PolyError ?u_NoMeet_NoMeet ?z_ValueError ?z_abs ?z_bool ?z_int ?z_isinstance ?z_len ?z_list ?z_max ?z_range ?z_tuple ?tr
    (case a_greatest => k_is)
    (case l_greatest => k_is)
    (case c_greatest => k_is)
    (case k_greatest => k_is)
    (case a_content => k_is)
    (case l_content => k_is)
    (case c_content => k_is)
    (case k_content => k_is)
    (case a_signed_content => k_is)
    (case l_signed_content => k_is)
    (case c_signed_content => k_is)
    (case k_signed_content => k_is)
    (case a_simple => k_is)
    (case l_simple => k_is)
    (case c_simple => k_is)
    (case k_simple => k_is)
    (case a_trimmed => k_is)
    (case l_trimmed => k_is)
    (case c_trimmed => k_is)
    (case k_trimmed => k_is)
    (case a_number_at => k_is)
    (case l_number_at => k_is)
    (case c_number_at => k_is)
    (case k_number_at => k_is)
    (case a_minus => k_is)
    (case l_minus => k_is)
    (case c_minus => k_is)
    (case k_minus => k_is)
    (case a_scaled => k_is)
    (case l_scaled => k_is)
    (case c_scaled => k_is)
    (case k_scaled => k_is)
    (case a_times => k_is)
    (case l_times => k_is)
    (case c_times => k_is)
    (case k_times => k_is)
    (case a_divided => k_is)
    (case l_divided => k_is)
    (case c_divided => k_is)
    (case k_divided => k_is)
    (case a_quotient => k_is)
    (case l_quotient => k_is)
    (case c_quotient => k_is)
    (case k_quotient => k_is)
    (case a_shared => k_is)
    (case l_shared => k_is)
    (case c_shared => k_is)
    (case k_shared => k_is)
    (case a_begun => k_is)
    (case l_begun => k_is)
    (case c_begun => k_is)
    (case k_begun => k_is)
    (case a_behind => k_is)
    (case l_behind => k_is)
    (case c_behind => k_is)
    (case k_behind => k_is)
    (case a_meet => k_is)
    (case l_meet => k_is)
    (case c_meet => k_is)
    (case k_meet => k_is)
    (case a__law_whole => k_is)
    (case l__law_whole => k_is)
    (case c__law_whole => k_is)
    (case k__law_whole => k_is)
    (case a__law_cell_at => k_is)
    (case l__law_cell_at => k_is)
    (case c__law_cell_at => k_is)
    (case k__law_cell_at => k_is)
    (case a__law_trim => k_is)
    (case l__law_trim => k_is)
    (case c__law_trim => k_is)
    (case k__law_trim => k_is)
    (case a__law_same => k_is)
    (case l__law_same => k_is)
    (case c__law_same => k_is)
    (case k__law_same => k_is)
    (case a__law_number => k_is)
    (case l__law_number => k_is)
    (case c__law_number => k_is)
    (case k__law_number => k_is)
    (case a__law_small => k_is)
    (case l__law_small => k_is)
    (case c__law_small => k_is)
    (case k__law_small => k_is)
    (case a__law_drawn => k_is)
    (case l__law_drawn => k_is)
    (case c__law_drawn => k_is)
    (case k__law_drawn => k_is)
    (case a__law_plus => k_is)
    (case l__law_plus => k_is)
    (case c__law_plus => k_is)
    (case k__law_plus => k_is)
    (case a__law_times => k_is)
    (case l__law_times => k_is)
    (case c__law_times => k_is)
    (case k__law_times => k_is)
    (case a__law_row => k_is)
    (case l__law_row => k_is)
    (case c__law_row => k_is)
    (case k__law_row => k_is)
    (case a__law_greatest => k_is)
    (case l__law_greatest => k_is)
    (case c__law_greatest => k_is)
    (case k__law_greatest => k_is)
    (case a__law_content => k_is)
    (case l__law_content => k_is)
    (case c__law_content => k_is)
    (case k__law_content => k_is)
    (case a__law_simple => k_is)
    (case l__law_simple => k_is)
    (case c__law_simple => k_is)
    (case k__law_simple => k_is)
    (case a__law_divides => k_is)
    (case l__law_divides => k_is)
    (case c__law_divides => k_is)
    (case k__law_divides => k_is)
    (case a__law_refused => k_is)
    (case l__law_refused => k_is)
    (case c__law_refused => k_is)
    (case k__law_refused => k_is)
    (case a__law_fits => k_is)
    (case l__law_fits => k_is)
    (case c__law_fits => k_is)
    (case k__law_fits => k_is)
    (case a__law_built => k_is)
    (case l__law_built => k_is)
    (case c__law_built => k_is)
    (case k__law_built => k_is)
    (case a_law => k_is)
    (case l_law => k_is)
    (case c_law => k_is)
    (case k_law => k_is)
    (case g_PolyError => k_is)
    (case x_PolyError => k_exc)
    (case k_PolyError => k_is)
    (case b_PolyError => k_is)
    (case t_PolyError => k_is)
    (case h_PolyError => k_is)
    (case ig_PolyError => k_is)
    (case ik_PolyError => k_is)
    (case ia_PolyError => k_is)
    (case in_PolyError => k_is)
    (case it_PolyError => k_is)
    (case im_PolyError => k_is)
    (case v_PolyError => k_is)
    (case g_ByNought => k_is)
    (case x_ByNought => k_exc)
    (case k_ByNought => k_is)
    (case b_ByNought => k_is)
    (case t_ByNought => k_is)
    (case h_ByNought => k_is)
    (case ig_ByNought => k_is)
    (case ik_ByNought => k_is)
    (case ia_ByNought => k_is)
    (case in_ByNought => k_is)
    (case it_ByNought => k_is)
    (case im_ByNought => k_is)
    (case v_ByNought => k_is)
    (case g_NotWhole => k_is)
    (case x_NotWhole => k_exc)
    (case k_NotWhole => k_is)
    (case b_NotWhole => k_is)
    (case t_NotWhole => k_is)
    (case h_NotWhole => k_is)
    (case ig_NotWhole => k_is)
    (case ik_NotWhole => k_is)
    (case ia_NotWhole => k_is)
    (case in_NotWhole => k_is)
    (case it_NotWhole => k_is)
    (case im_NotWhole => k_is)
    (case v_NotWhole => k_is)
    (case g_NoMeet => k_is)
    (case x_NoMeet => k_exc)
    (case k_NoMeet => k_is)
    (case b_NoMeet => k_is)
    (case t_NoMeet => k_is)
    (case h_NoMeet => k_is)
    (case ig_NoMeet => k_is)
    (case ik_NoMeet => k_is)
    (case ia_NoMeet => k_is)
    (case in_NoMeet => k_is)
    (case it_NoMeet => k_is)
    (case im_NoMeet => k_is)
    (case v_NoMeet => k_is)
    (case u_NoMeet_PolyError => first | rfl | k_is)
    (case u_NoMeet_NoMeet => first | rfl | k_is)
    (case z_ValueError => k_is)
    (case z_abs => k_is)
    (case z_bool => k_is)
    (case z_int => k_is)
    (case z_isinstance => k_is)
    (case z_len => k_is)
    (case z_list => k_is)
    (case z_max => k_is)
    (case z_range => k_is)
    (case z_tuple => k_is)
    (case tr => rfl)
