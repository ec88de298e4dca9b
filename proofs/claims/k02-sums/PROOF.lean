import PyProof.Rows.All
import Wide.All
import OpenK.AllK
import Wide.FinOn
import HandS.ForMost
import HandS.Exc
import HandS.TryOnly
import HandS.ExcOwn
import HandS.WordsExc
import HandS.TryMany
import HandS.Wide
import HandS.Rev
import HandS.IsInst
import PySem.Challenge.RW_polyarith_k02_sums
set_option Elab.async false
set_option linter.all false
set_option maxRecDepth 100000
set_option maxHeartbeats 4000000
namespace Pa
open PySem PySem.Spec PyProof.Rows L2
abbrev St := L2.St

/-! ### owned objects over a heap -/
abbrev Fs := List (Addr × HO)
def Kn (H0 : Hp) : Fs → Hp → Prop
  | [], H => Same H0 H
  | x :: fs, H => H x.1 = some x.2 ∧ ∃ H1, Same H1 H ∧ H1 x.1 = none ∧ Kn H0 fs H1
theorem Kn.same {H0 : Hp} : ∀ {fs : Fs} {H : Hp}, Kn H0 fs H → Same H0 H
  | [], _, h => h
  | _ :: _, _, ⟨_, _, s, _, k⟩ => (Kn.same k).trans s
theorem Kn.ext {H0 : Hp} : ∀ {fs : Fs} {H H' : Hp}, Kn H0 fs H → Same H H' → Kn H0 fs H'
  | [], _, _, h, s => Same.trans h s
  | _ :: _, _, _, ⟨e, H1, s1, n, k⟩, s => ⟨s _ _ e, H1, s1.trans s, n, k⟩
theorem same_upd {H : Hp} {p : Addr} {o : HO} (h : H p = none) : Same H (upd H p o) := fun b x e => by
  rw [upd_ne (ne_of_none e h)]
  exact e
theorem Kn.new {H0 H : Hp} {fs : Fs} {p : Addr} {o : HO} (k : Kn H0 fs H) (h : H p = none) : Kn H0 ((p, o) :: fs) (upd H p o) :=
  ⟨upd_same, H, same_upd h, h, k⟩
theorem Kn.get {H0 : Hp} : ∀ {fs : Fs} {H : Hp} {p : Addr} {o : HO}, Kn H0 fs H → (p, o) ∈ fs → H p = some o
  | _ :: _, _, _, _, ⟨e, _⟩, .head _ => e
  | _ :: _, _, _, _, ⟨_, _, s, _, k⟩, .tail _ m => s _ _ (Kn.get k m)
theorem Kn.fresh {H0 H : Hp} {fs : Fs} {p : Addr} (k : Kn H0 fs H) (h : H p = none) : H0 p = none := k.same.free h
theorem Kn.out {H0 : Hp} : ∀ {fs : Fs} {H : Hp} {p : Addr} {o : HO}, Kn H0 fs H → (p, o) ∈ fs → H0 p = none
  | _ :: _, _, _, _, ⟨_, _, _, n, k⟩, .head _ => k.same.free n
  | _ :: _, _, _, _, ⟨_, _, _, _, k⟩, .tail _ m => Kn.out k m
theorem Kn.put {H0 : Hp} : ∀ {fs : Fs} {H : Hp} {i : Nat} {p : Addr} {o o' : HO}, Kn H0 fs H → fs[i]? = some (p, o) → Kn H0 (fs.set i (p, o')) (upd H p o')
  | [], _, _, _, _, _, _, h => by simp at h
  | x :: fs, H, 0, p, o, o', ⟨e, H1, s, n, k⟩, h => by
    have ex : x = (p, o) := Option.some.inj h
    subst ex
    exact ⟨upd_same, H1, fun b u q => by rw [upd_ne (ne_of_none q n)]; exact s _ _ q, n, k⟩
  | x :: fs, H, i + 1, p, o, o', ⟨e, H1, s, n, k⟩, h => by
    have h' : fs[i]? = some (p, o) := by simpa using h
    have hp : H1 p = some o := k.get (List.mem_of_getElem? h')
    have ne : x.1 ≠ p := fun z => by rw [z, hp] at n; cases n
    refine ⟨by rw [upd_ne ne]; exact e, upd H1 p o', fun b u q => ?_, by rw [upd_ne ne]; exact n, Kn.put k h'⟩
    by_cases hb : b = p
    · subst hb; rw [upd_same] at q ⊢; exact q
    · rw [upd_ne hb] at q ⊢; exact s _ _ q
theorem Kn.app {H0 H : Hp} {fs : Fs} (k : Kn H0 fs H) : ∀ {fs' : Fs} {H' : Hp}, Kn H fs' H' → Kn H0 (fs' ++ fs) H'
  | [], _, k' => k.ext k'
  | _ :: _, _, ⟨e, H1, s, n, k'⟩ => ⟨e, H1, s, n, Kn.app k k'⟩
theorem Kn.drop {H0 H : Hp} {x : Addr × HO} {fs : Fs} (k : Kn H0 (x :: fs) H) : Kn H0 fs H := by
  obtain ⟨_, H1, s, _, k⟩ := k
  exact k.ext s
theorem Kn.sub {H0 : Hp} : ∀ {fs fs' : Fs} {H : Hp}, List.Sublist fs' fs → Kn H0 fs H → Kn H0 fs' H
  | _, _, _, .slnil, k => k
  | _, _, _, .cons _ s, k => Kn.sub s k.drop
  | _, _, _, .cons_cons _ s, ⟨e, H1, t, n, k⟩ => ⟨e, H1, t, n, Kn.sub s k⟩
/-- seen from a later heap -/
theorem Kn.ne {H0 : Hp} {x : Addr × HO} {fs : Fs} {H : Hp} {p : Addr} {o : HO} (k : Kn H0 (x :: fs) H) (m : (p, o) ∈ fs) : x.1 ≠ p := by
  obtain ⟨_, H1, _, n, k⟩ := k
  intro e
  rw [e, k.get m] at n
  cases n
theorem Kn.swap {H0 : Hp} {x y : Addr × HO} {fs : Fs} {H : Hp} (k : Kn H0 (x :: y :: fs) H) : Kn H0 (y :: x :: fs) H := by
  obtain ⟨ex, H1, s1, n1, ey, H2, s2, n2, k⟩ := k
  have ne : x.1 ≠ y.1 := fun z => by rw [z, ey] at n1; cases n1
  have hx2 : H2 x.1 = none := s2.free n1
  refine ⟨s1 _ _ ey, upd H2 x.1 x.2, fun b u q => ?_, ?_, upd_same, H2, same_upd hx2, hx2, k⟩
  · by_cases hb : b = x.1
    · subst hb; rw [upd_same] at q; cases q; exact ex
    · rw [upd_ne hb] at q; exact s1 _ _ (s2 _ _ q)
  · rw [upd_ne (Ne.symm ne)]; exact n2

/-! ### what may be read -/
def Rl (K : PySem.W.Frag) (H0 : Hp) (fs : Fs) (a : Addr) (xs : List V) : Prop := ∀ H, Kn H0 fs H → SqL K H a xs
def Rt (K : PySem.W.Frag) (H0 : Hp) (fs : Fs) (a : Addr) (xs : List V) : Prop := ∀ H, Kn H0 fs H → SqT K H a xs
/-- an exact object -/
def Rx (H0 : Hp) (fs : Fs) (a : Addr) (o : HO) : Prop := ∀ H, Kn H0 fs H → H a = some o
section
variable {K : PySem.W.Frag} {H0 : Hp} {fs fs' : Fs} {a : Addr} {xs : List V} {o : HO}
theorem Rx.own (m : (a, o) ∈ fs) : Rx H0 fs a o := fun _ k => k.get m
theorem Rx.arg (h : H0 a = some o) : Rx H0 fs a o := fun _ k => k.same _ _ h
theorem Rl.x (h : Rx H0 fs a (.lst xs)) : Rl K H0 fs a xs := fun H k => SqL.of (h H k)
theorem Rl.sq (h : SqL K H0 a xs) : Rl K H0 fs a xs := fun _ k => k.same.seq h
theorem Rt.x (h : Rx H0 fs a (.tup xs)) : Rt K H0 fs a xs := fun H k => SqT.of (h H k)
end

/-! ### zV -/
def zV (ns : List Int) : List V := ns.map V.int
theorem zV_length (ns : List Int) : (zV ns).length = ns.length := List.length_map _
theorem zV_get {ns : List Int} {i : Nat} {x : Int} (h : ns[i]? = some x) : (zV ns)[i]? = some (.int x) := by
  unfold zV
  rw [List.getElem?_map, h]; rfl
/-- the number at a place -/
def gat (ns : List Int) (i : Int) : Int := ns.getD i.toNat 0
theorem gat_nat (ns : List Int) (i : Nat) : gat ns (i : Int) = ns.getD i 0 := by unfold gat; simp
theorem atI_zV {ns : List Int} {i : Int} (h0 : 0 ≤ i) (h1 : i < (ns.length : Int)) : atI (zV ns) i = some (.int (gat ns i)) := by
  obtain ⟨k, rfl⟩ := Int.eq_ofNat_of_zero_le h0
  have hk : k < ns.length := by omega
  refine atI_nat (zV_get ?_)
  rw [gat_nat, List.getD_eq_getElem?_getD, List.getElem?_eq_getElem hk]; rfl
theorem ixN_nat {n j : Nat} (hj : j < n) : ixN n (j : Int) = some j := by
  unfold ixN
  rw [if_pos (by omega), if_pos (by omega)]
  simp
theorem ixN_int {n : Nat} {i : Int} (h0 : 0 ≤ i) (h1 : i < (n : Int)) : ixN n i = some i.toNat := by
  unfold ixN
  rw [if_pos h0, if_pos h1]
theorem zV_set (ns : List Int) (i : Nat) (x : Int) : (zV ns).set i (.int x) = zV (ns.set i x) := by
  unfold zV; rw [List.map_set]
theorem zV_app (ns ms : List Int) : zV ns ++ zV ms = zV (ns ++ ms) := by
  unfold zV; rw [List.map_append]
theorem atI_lastI {ns : List Int} (h : ns ≠ []) : atI (zV ns) (-1) = some (.int (ns.getLast h)) := by
  have e : zV ns = zV ns.dropLast ++ [.int (ns.getLast h)] := by
    have := zV_app ns.dropLast [ns.getLast h]
    rw [List.dropLast_concat_getLast] at this
    exact this.symm
  rw [e]; exact atI_last _ _
theorem sz_le {n : Nat} (h : n ≤ 1000000) : n ≤ sizeLine := Nat.le_trans h (by decide)
theorem sz_lt {n : Nat} (h : n < 1000000) : n < sizeLine := Nat.lt_of_lt_of_le h (by decide)
end Pa

namespace Pa
open PySem PySem.Spec PyProof.Rows L2

/-! ### readings over owned objects -/
abbrev CV := V → Fs → Prop
def W (te : TE) (σ : St) (H0 : Hp) (fs : Fs) (Φ : CV) : Prop := ∀ H, Kn H0 fs H → ∀ Q : VK, (∀ v fs' H', Kn H0 fs' H' → Φ v fs' → Q v H') → te σ H Q
def WT (tt : TT) (σ : St) (H0 : Hp) (fs : Fs) (Φ : Bool → Fs → Prop) : Prop := ∀ H, Kn H0 fs H → ∀ Q : Bool → Hp → Prop, (∀ v fs' H', Kn H0 fs' H' → Φ v fs' → Q v H') → tt σ H Q
def WA (ta : TA) (σ : St) (H0 : Hp) (fs : Fs) (Φ : List V → Fs → Prop) : Prop := ∀ H, Kn H0 fs H → ∀ Q : List V → Hp → Prop, (∀ v fs' H', Kn H0 fs' H' → Φ v fs' → Q v H') → ta σ H Q
def WO (tn : TO) (σ : St) (H0 : Hp) (fs : Fs) (Φ : Option Int → Fs → Prop) : Prop := ∀ H, Kn H0 fs H → ∀ Q : Option Int → Hp → Prop, (∀ v fs' H', Kn H0 fs' H' → Φ v fs' → Q v H') → tn σ H Q
/-- an operation on two values, a call on values -/
def RW (r : R2) (x y : V) (H0 : Hp) (fs : Fs) (Φ : CV) : Prop := ∀ H, Kn H0 fs H → ∀ Q : VK, (∀ v fs' H', Kn H0 fs' H' → Φ v fs' → Q v H') → r x y H Q
def RU (r : V → Hp → VK → Prop) (x : V) (H0 : Hp) (fs : Fs) (Φ : CV) : Prop := ∀ H, Kn H0 fs H → ∀ Q : VK, (∀ v fs' H', Kn H0 fs' H' → Φ v fs' → Q v H') → r x H Q
def RC (r : List V → Hp → VK → Prop) (vs : List V) (H0 : Hp) (fs : Fs) (Φ : CV) : Prop := ∀ H, Kn H0 fs H → ∀ Q : VK, (∀ v fs' H', Kn H0 fs' H' → Φ v fs' → Q v H') → r vs H Q
def RM (r : V → List V → Hp → VK → Prop) (x : V) (vs : List V) (H0 : Hp) (fs : Fs) (Φ : CV) : Prop := ∀ H, Kn H0 fs H → ∀ Q : VK, (∀ v fs' H', Kn H0 fs' H' → Φ v fs' → Q v H') → r x vs H Q
def RS (r : V → Option Int → Option Int → Hp → VK → Prop) (x : V) (lo hi : Option Int) (H0 : Hp) (fs : Fs) (Φ : CV) : Prop := ∀ H, Kn H0 fs H → ∀ Q : VK, (∀ v fs' H', Kn H0 fs' H' → Φ v fs' → Q v H') → r x lo hi H Q
/-- a call's promise -/
def WC (sp : Sp) (vs : List V) (H0 : Hp) (fs : Fs) (Φ : CV) : Prop := ∀ H, Kn H0 fs H → ∀ (Q : VK) (E : XK), (∀ v fs' H', Kn H0 fs' H' → Φ v fs' → Q v H') → sp vs H Q E
/-- statements: what must hold behind -/
def N (e : St → Hp → Prop) (σ : St) (H0 : Hp) (fs : Fs) : Prop := ∀ H, Kn H0 fs H → e σ H
/-- a value handed back -/
def NR (Q : VK) (v : V) (H0 : Hp) (fs : Fs) : Prop := ∀ H, Kn H0 fs H → Q v H

section
variable {σ : St} {H0 : Hp} {fs : Fs} {Φ : CV} {ta tb tc te : TE} {t u : TT} {i : Nat} {v x y : V} {r r' : R2} {K : PySem.W.Frag} {tr : TA} {ΦT : Bool → Fs → Prop} {ΦA : List V → Fs → Prop}

theorem W.var (h : σ[i]? = some (some v)) (q : Φ v fs) : W (tVar i) σ H0 fs Φ := fun H k _ c => ⟨v, h, c v fs H k q⟩
theorem W.c (q : Φ v fs) : W (tC v) σ H0 fs Φ := fun H k _ c => c v fs H k q
theorem W.op (h : W ta σ H0 fs fun x f1 => W tb σ H0 f1 fun y f2 => RW r x y H0 f2 Φ) : W (tOp r ta tb) σ H0 fs Φ := fun H k Q c =>
  h H k _ fun _ _ H1 k1 h1 => h1 H1 k1 _ fun _ _ H2 k2 h2 => h2 H2 k2 Q c
theorem W.un {r : V → Hp → VK → Prop} (h : W ta σ H0 fs fun x f1 => RU r x H0 f1 Φ) : W (tUn r ta) σ H0 fs Φ := fun H k Q c =>
  h H k _ fun _ _ H1 k1 h1 => h1 H1 k1 Q c
theorem RW.i0 {g : Int → Int → V} {i j : Int} (q : Φ (g i j) fs) : RW (rI0 g) (.int i) (.int j) H0 fs Φ := fun H k _ c => ⟨i, j, rfl, rfl, c _ fs H k q⟩
theorem RW.i1 {C : Int → Int → Prop} {g : Int → Int → V} {i j : Int} (hc : C i j) (q : Φ (g i j) fs) : RW (rI C g) (.int i) (.int j) H0 fs Φ := fun H k _ c => ⟨i, j, rfl, rfl, hc, c _ fs H k q⟩
theorem RU.int {g : Int → V} {i : Int} (q : Φ (g i) fs) : RU (rU g) (.int i) H0 fs Φ := fun H k _ c => ⟨i, rfl, c _ fs H k q⟩
theorem RW.eqI {i j : Int} (q : Φ (.bl (decide (i = j))) fs) : RW rEq (.int i) (.int j) H0 fs Φ := fun H k Q c => ⟨rfl, by
  have e : decide (V.int i = V.int j) = decide (i = j) := by rw [dec_int, Bool.beq_eq_decide_eq]
  rw [e]; exact c _ fs H k q⟩
theorem RW.neI {i j : Int} (q : Φ (.bl (!decide (i = j))) fs) : RW rNe (.int i) (.int j) H0 fs Φ := fun H k Q c => ⟨rfl, by
  have e : decide (V.int i = V.int j) = decide (i = j) := by rw [dec_int, Bool.beq_eq_decide_eq]
  rw [e]; exact c _ fs H k q⟩
theorem RW.eqS {i j : Str} (q : Φ (.bl (decide (i = j))) fs) : RW rEq (.str i) (.str j) H0 fs Φ := fun H k Q c => ⟨rfl, by
  have e : decide (V.str i = V.str j) = decide (i = j) := by rw [dec_str, Bool.beq_eq_decide_eq]
  rw [e]; exact c _ fs H k q⟩
theorem RW.neS {i j : Str} (q : Φ (.bl (!decide (i = j))) fs) : RW rNe (.str i) (.str j) H0 fs Φ := fun H k Q c => ⟨rfl, by
  have e : decide (V.str i = V.str j) = decide (i = j) := by rw [dec_str, Bool.beq_eq_decide_eq]
  rw [e]; exact c _ fs H k q⟩

/-! ### arguments, displays -/
theorem WA.nil (q : ΦA [] fs) : WA tNil σ H0 fs ΦA := fun H k _ c => c [] fs H k q
theorem WA.cons (h : W ta σ H0 fs fun x f1 => WA tr σ H0 f1 fun xs f2 => ΦA (x :: xs) f2) : WA (tCons ta tr) σ H0 fs ΦA := fun H k Q c =>
  h H k _ fun _ _ H1 k1 h1 => h1 H1 k1 _ fun _ _ H2 k2 h2 => c _ _ H2 k2 h2
theorem W.lst (h : WA tr σ H0 fs fun vs f1 => vs.length ≤ 1000000 ∧ ∀ p, Φ (.ref p) ((p, .lst vs) :: f1)) : W (tLst tr) σ H0 fs Φ := fun H k Q c =>
  h H k _ fun _ _ H1 k1 h1 => ⟨sz_le h1.1, fun p hp => c _ _ _ (k1.new hp) (h1.2 p)⟩
theorem W.tup (h : WA tr σ H0 fs fun vs f1 => vs.length ≤ 1000000 ∧ ∀ p, Φ (.ref p) ((p, .tup vs) :: f1)) : W (tTup tr) σ H0 fs Φ := fun H k Q c =>
  h H k _ fun _ _ H1 k1 h1 => ⟨sz_le h1.1, fun p hp => c _ _ _ (k1.new hp) (h1.2 p)⟩
theorem W.cb {r : List V → Hp → VK → Prop} (h : WA tr σ H0 fs fun vs f1 => RC r vs H0 f1 Φ) : W (tCB r tr) σ H0 fs Φ := fun H k Q c =>
  h H k _ fun _ _ H1 k1 h1 => h1 H1 k1 Q c
theorem W.call {sp : Sp} {E : XK} (h : WA tr σ H0 fs fun vs f1 => WC sp vs H0 f1 Φ) : W (tCall sp [] E tr) σ H0 fs Φ := fun H k Q c =>
  h H k _ fun vs _ H1 k1 h1 => by rw [List.append_nil]; exact h1 H1 k1 Q E c

/-! ### built-ins -/
def rLen (K : PySem.W.Frag) : List V → Hp → VK → Prop := fun xs H Q => ∃ p ys, xs = [.ref p] ∧ (SqL K H p ys ∨ SqT K H p ys) ∧ Q (.int ys.length) H
def rLenS : List V → Hp → VK → Prop := fun xs H Q => ∃ z, xs = [.str z] ∧ z.length ≤ sizeLine ∧ Q (.int z.length) H
def rAbs : List V → Hp → VK → Prop := fun xs H Q => ∃ i, xs = [.int i] ∧ Q (.int (if i < 0 then -i else i)) H
def rMax2 : List V → Hp → VK → Prop := fun xs H Q => ∃ i j, xs = [.int i, .int j] ∧ Q (.int (if j > i then j else i)) H
def rMin2 : List V → Hp → VK → Prop := fun xs H Q => ∃ i j, xs = [.int i, .int j] ∧ Q (.int (if j < i then j else i)) H
def rListOf (K : PySem.W.Frag) : List V → Hp → VK → Prop := fun xs H Q => ∃ p ys, xs = [.ref p] ∧ (SqL K H p ys ∨ SqT K H p ys) ∧ ∀ l, H l = none → Q (.ref l) (upd H l (.lst ys))
def rTupOf (K : PySem.W.Frag) : List V → Hp → VK → Prop := fun xs H Q => ∃ p ys, xs = [.ref p] ∧ ((SqL K H p ys ∧ ∀ l, H l = none → Q (.ref l) (upd H l (.tup ys))) ∨ (SqT K H p ys ∧ Q (.ref p) H))
section
variable {X : Cx}
theorem cLen : CallR X (.builtin "len") (rLen X.K) := call_len_seq
theorem cLenS : CallR X (.builtin "len") rLenS := call_len_str
theorem cAbs : CallR X (.builtin "abs") rAbs := call_abs
theorem cMax2 (hc : X.calm = true) : CallR X (.builtin "max") rMax2 := call_max2 hc
theorem cMin2 (hc : X.calm = true) : CallR X (.builtin "min") rMin2 := call_min2 hc
theorem cListOf : CallR X (.type "list") (rListOf X.K) := call_list_of
theorem cTupOf : CallR X (.type "tuple") (rTupOf X.K) := call_tuple_of
end
theorem RC.len {p : Addr} {xs : List V} (h : Rl K H0 fs p xs) (q : Φ (.int xs.length) fs) : RC (rLen K) [.ref p] H0 fs Φ := fun H k _ c => ⟨p, xs, rfl, .inl (h H k), c _ fs H k q⟩
theorem RC.lenT {p : Addr} {xs : List V} (h : Rt K H0 fs p xs) (q : Φ (.int xs.length) fs) : RC (rLen K) [.ref p] H0 fs Φ := fun H k _ c => ⟨p, xs, rfl, .inr (h H k), c _ fs H k q⟩
theorem RC.lenZ {p : Addr} {ns : List Int} (h : Rl K H0 fs p (zV ns)) (q : Φ (.int ns.length) fs) : RC (rLen K) [.ref p] H0 fs Φ := RC.len h (by rw [zV_length]; exact q)
theorem RC.lenS {z : Str} (h : z.length ≤ 1000000) (q : Φ (.int z.length) fs) : RC rLenS [.str z] H0 fs Φ := fun H k _ c => ⟨z, rfl, sz_le h, c _ fs H k q⟩
theorem RC.abs {i : Int} (q : Φ (.int (i.natAbs : Int)) fs) : RC rAbs [.int i] H0 fs Φ := fun H k _ c => ⟨i, rfl, by
  have e : (if i < 0 then -i else i) = (i.natAbs : Int) := by split <;> omega
  rw [e]; exact c _ fs H k q⟩
theorem RC.max2 {i j : Int} (q : Φ (.int (max i j)) fs) : RC rMax2 [.int i, .int j] H0 fs Φ := fun H k _ c => ⟨i, j, rfl, by
  have e : (if j > i then j else i) = max i j := by split <;> omega
  rw [e]; exact c _ fs H k q⟩
theorem RC.min2 {i j : Int} (q : Φ (.int (min i j)) fs) : RC rMin2 [.int i, .int j] H0 fs Φ := fun H k _ c => ⟨i, j, rfl, by
  have e : (if j < i then j else i) = min i j := by split <;> omega
  rw [e]; exact c _ fs H k q⟩
theorem RC.listL {p : Addr} {xs : List V} (h : Rl K H0 fs p xs) (q : ∀ l, Φ (.ref l) ((l, .lst xs) :: fs)) : RC (rListOf K) [.ref p] H0 fs Φ := fun H k _ c => ⟨p, xs, rfl, .inl (h H k), fun l hl => c _ _ _ (k.new hl) (q l)⟩
theorem RC.listT {p : Addr} {xs : List V} (h : Rt K H0 fs p xs) (q : ∀ l, Φ (.ref l) ((l, .lst xs) :: fs)) : RC (rListOf K) [.ref p] H0 fs Φ := fun H k _ c => ⟨p, xs, rfl, .inr (h H k), fun l hl => c _ _ _ (k.new hl) (q l)⟩
theorem RC.tupL {p : Addr} {xs : List V} (h : Rl K H0 fs p xs) (q : ∀ l, Φ (.ref l) ((l, .tup xs) :: fs)) : RC (rTupOf K) [.ref p] H0 fs Φ := fun H k _ c => ⟨p, xs, rfl, .inl ⟨h H k, fun l hl => c _ _ _ (k.new hl) (q l)⟩⟩
/-- isinstance -/
theorem RC.isi {x : V} {n : String} {t : Value} {b : Bool} (ht : ∀ H, Kn H0 fs H → TyX K H x t) (hk : PySem.W.kitOne K t (.type n) = some b) (q : Φ (.bl b) fs) : RC (rIsi K) [x, .ty n] H0 fs Φ := fun H k _ c =>
  ⟨x, .ty n, t, .type n, b, rfl, .ty n, ht H k, hk, c _ fs H k q⟩

/-! ### items, slices -/
theorem RW.ixZ {p : Addr} {ns : List Int} {i : Int} (h : Rl K H0 fs p (zV ns)) (hi : 0 ≤ i ∧ i < (ns.length : Int)) (q : Φ (.int (gat ns i)) fs) : RW (rIxL K) (.ref p) (.int i) H0 fs Φ := fun H k _ c =>
  ⟨p, _, i, _, rfl, rfl, h H k, atI_zV hi.1 hi.2, c _ fs H k q⟩
theorem RW.ixL {p : Addr} {xs : List V} {i : Int} (h : Rl K H0 fs p xs) (hi : atI xs i = some v) (q : Φ v fs) : RW (rIxL K) (.ref p) (.int i) H0 fs Φ := fun H k _ c =>
  ⟨p, _, i, _, rfl, rfl, h H k, hi, c _ fs H k q⟩
theorem RW.ixT {p : Addr} {xs : List V} {i : Int} (h : Rt K H0 fs p xs) (hi : atI xs i = some v) (q : Φ v fs) : RW (rIxT K) (.ref p) (.int i) H0 fs Φ := fun H k _ c =>
  ⟨p, _, i, _, rfl, rfl, h H k, hi, c _ fs H k q⟩
theorem WO.no {Φo : Option Int → Fs → Prop} (q : Φo Option.none fs) : WO tNoPart σ H0 fs Φo := fun H k _ c => c Option.none fs H k q
theorem WO.part {Φo : Option Int → Fs → Prop} (h : W te σ H0 fs fun x f1 => ∃ i, x = .int i ∧ Φo (some i) f1) : WO (tPart te) σ H0 fs Φo := fun H k _ c =>
  h H k _ fun _ _ H1 k1 ⟨i, e, q⟩ => ⟨i, e, c _ _ H1 k1 q⟩
theorem W.sl {r : V → Option Int → Option Int → Hp → VK → Prop} {tl th : TO} (h : W te σ H0 fs fun x f1 => WO tl σ H0 f1 fun lo f2 => WO th σ H0 f2 fun hi f3 => RS r x lo hi H0 f3 Φ) : W (tSl r te tl th) σ H0 fs Φ := fun H k Q c =>
  h H k _ fun _ _ H1 k1 h1 => h1 H1 k1 _ fun _ _ H2 k2 h2 => h2 H2 k2 _ fun _ _ H3 k3 h3 => h3 H3 k3 Q c
theorem RS.l {p : Addr} {xs : List V} {lo hi : Option Int} (h : Rl K H0 fs p xs) (q : ∀ l, Φ (.ref l) ((l, .lst (cutV xs lo hi)) :: fs)) : RS (rSlL K) (.ref p) lo hi H0 fs Φ := fun H k _ c =>
  ⟨p, xs, rfl, h H k, fun l hl => c _ _ _ (k.new hl) (q l)⟩
theorem cut_take {ns : List Int} {i : Int} (h : 0 ≤ i) : cutV (zV ns) none (some i) = zV (ns.take i.toNat) := by
  obtain ⟨k, rfl⟩ := Int.eq_ofNat_of_zero_le h
  unfold cutV
  rw [HT.sIx_nat, HT.sIx_none, zV_length, List.drop_zero, Nat.sub_zero]
  unfold zV
  rw [List.map_take]
  have e : ((k : Int)).toNat = k := by simp
  rw [e]
  by_cases hk : k ≤ ns.length
  · rw [Nat.min_eq_left hk]
  · rw [Nat.min_eq_right (by omega), List.take_of_length_le (by simp), List.take_of_length_le (by simp; omega)]
theorem cut_drop {ns : List Int} {i : Int} (h : 0 ≤ i) : cutV (zV ns) (some i) none = zV (ns.drop i.toNat) := by
  obtain ⟨k, rfl⟩ := Int.eq_ofNat_of_zero_le h
  unfold cutV
  rw [HT.sIx_nat, HT.sIx_none, zV_length]
  unfold zV
  rw [List.map_drop]
  have e : ((k : Int)).toNat = k := by simp
  rw [e]
  by_cases hk : k ≤ ns.length
  · rw [Nat.min_eq_left hk, List.take_of_length_le (by simp)]
  · rw [Nat.min_eq_right (by omega), List.drop_of_length_le (by simp), List.drop_of_length_le (by simp; omega)]
    exact List.take_nil
theorem RS.take {p : Addr} {ns : List Int} {i : Int} (h : Rl K H0 fs p (zV ns)) (hi : 0 ≤ i) (q : ∀ l, Φ (.ref l) ((l, .lst (zV (ns.take i.toNat))) :: fs)) : RS (rSlL K) (.ref p) none (some i) H0 fs Φ := RS.l h (by rw [cut_take hi]; exact q)
theorem RS.drop {p : Addr} {ns : List Int} {i : Int} (h : Rl K H0 fs p (zV ns)) (hi : 0 ≤ i) (q : ∀ l, Φ (.ref l) ((l, .lst (zV (ns.drop i.toNat))) :: fs)) : RS (rSlL K) (.ref p) (some i) none H0 fs Φ := RS.l h (by rw [cut_drop hi]; exact q)

/-! ### lists joined, repeated -/
theorem RW.cat {p q : Addr} {xs ys : List V} (h1 : Rx H0 fs p (.lst xs)) (h2 : Rx H0 fs q (.lst ys)) (hl : xs.length + ys.length ≤ 1000000) (c : ∀ l, Φ (.ref l) ((l, .lst (xs ++ ys)) :: fs)) : RW rCat (.ref p) (.ref q) H0 fs Φ := fun H k _ cc =>
  ⟨p, q, xs, ys, rfl, rfl, h1 H k, h2 H k, sz_le hl, fun l hl => cc _ _ _ (k.new hl) (c l)⟩
theorem RW.catZ {p q : Addr} {xs ys : List Int} (h1 : Rx H0 fs p (.lst (zV xs))) (h2 : Rx H0 fs q (.lst (zV ys))) (hl : xs.length + ys.length ≤ 1000000) (c : ∀ l, Φ (.ref l) ((l, .lst (zV (xs ++ ys))) :: fs)) : RW rCat (.ref p) (.ref q) H0 fs Φ :=
  RW.cat h1 h2 (by rw [zV_length, zV_length]; exact hl) (by rw [zV_app]; exact c)
theorem flat_rep (x : Int) : ∀ k : Nat, (List.replicate k (zV [x])).flatten = zV (List.replicate k x)
  | 0 => rfl
  | k + 1 => by
    rw [List.replicate_succ, List.flatten_cons, flat_rep x k, List.replicate_succ]; rfl
theorem RW.rep {p : Addr} {x k : Int} (h1 : Rx H0 fs p (.lst (zV [x]))) (hk : k ≤ 1000000 ∧ -1000000 ≤ k) (c : ∀ l, Φ (.ref l) ((l, .lst (zV (List.replicate k.toNat x))) :: fs)) : RW rRep (.ref p) (.int k) H0 fs Φ := fun H kn _ cc => by
  refine ⟨p, k, zV [x], rfl, rfl, h1 H kn, by omega, by omega, sz_le (by show 1 * k.toNat ≤ _; omega), fun l hl => ?_⟩
  rw [flat_rep]
  exact cc _ _ _ (kn.new hl) (c l)

/-! ### tests -/
theorem WT.test (h : W te σ H0 fs fun x f1 => ∃ b, x = .bl b ∧ ΦT b f1) : WT (tTest te) σ H0 fs ΦT := fun H k _ c =>
  h H k _ fun _ _ H1 k1 ⟨b, e, q⟩ => ⟨b, e, c _ _ H1 k1 q⟩
theorem WT.b (h : W te σ H0 fs fun x f1 => ∃ b, x = .bl b ∧ ΦT b f1) : WT (tB te) σ H0 fs ΦT := fun H k _ c =>
  h H k _ fun _ _ H1 k1 ⟨b, e, q⟩ => ⟨b, e, c _ _ H1 k1 q⟩
theorem WT.not (h : WT t σ H0 fs fun b f1 => ΦT (!b) f1) : WT (tNot t) σ H0 fs ΦT := fun H k _ c => h H k _ fun _ _ H1 k1 q => c _ _ H1 k1 q
theorem WT.and (h : WT t σ H0 fs fun b f1 => (b = true → WT u σ H0 f1 ΦT) ∧ (b = false → ΦT false f1)) : WT (tAnd t u) σ H0 fs ΦT := fun H k _ c =>
  h H k _ fun b _ H1 k1 q => by
    cases b with
    | true => exact (q.1 rfl) H1 k1 _ c
    | false => exact c _ _ H1 k1 (q.2 rfl)
theorem WT.or (h : WT t σ H0 fs fun b f1 => (b = true → ΦT true f1) ∧ (b = false → WT u σ H0 f1 ΦT)) : WT (tOr t u) σ H0 fs ΦT := fun H k _ c =>
  h H k _ fun b _ H1 k1 q => by
    cases b with
    | true => exact c _ _ H1 k1 (q.1 rfl)
    | false => exact (q.2 rfl) H1 k1 _ c
theorem W.andV (h : W ta σ H0 fs fun x f1 => ∃ b, x = .bl b ∧ (b = true → W tb σ H0 f1 Φ) ∧ (b = false → Φ (.bl false) f1)) : W (tAndV ta tb) σ H0 fs Φ := fun H k _ c =>
  h H k _ fun _ _ H1 k1 ⟨b, e, q⟩ => ⟨b, e, by
    cases b with
    | true => exact (q.1 rfl) H1 k1 _ c
    | false => exact c _ _ H1 k1 (q.2 rfl)⟩
theorem W.orV (h : W ta σ H0 fs fun x f1 => ∃ b, x = .bl b ∧ (b = true → Φ (.bl true) f1) ∧ (b = false → W tb σ H0 f1 Φ)) : W (tOrV ta tb) σ H0 fs Φ := fun H k _ c =>
  h H k _ fun _ _ H1 k1 ⟨b, e, q⟩ => ⟨b, e, by
    cases b with
    | true => exact c _ _ H1 k1 (q.1 rfl)
    | false => exact (q.2 rfl) H1 k1 _ c⟩
theorem W.notV (h : W ta σ H0 fs fun x f1 => ∃ b, x = .bl b ∧ Φ (.bl (!b)) f1) : W (tNotV ta) σ H0 fs Φ := fun H k _ c =>
  h H k _ fun _ _ H1 k1 ⟨b, e, q⟩ => ⟨b, e, c _ _ H1 k1 q⟩
theorem W.chain (h : W ta σ H0 fs fun x f1 => W tb σ H0 f1 fun y f2 => RW r x y H0 f2 fun z f3 => ∃ b, z = .bl b ∧ (b = true → W tc σ H0 f3 fun w f4 => RW r' y w H0 f4 Φ) ∧ (b = false → Φ (.bl false) f3)) : W (tChain r r' ta tb tc) σ H0 fs Φ := fun H k Q c =>
  h H k _ fun _ _ H1 k1 h1 => h1 H1 k1 _ fun _ _ H2 k2 h2 => h2 H2 k2 _ fun _ _ H3 k3 ⟨b, e, q⟩ => ⟨b, e, by
    cases b with
    | true => exact (q.1 rfl) H3 k3 _ fun _ _ H4 k4 h4 => h4 H4 k4 Q c
    | false => exact c _ _ H3 k3 (q.2 rfl)⟩
end

/-! ### statements -/
section
variable {σ : St} {H0 : Hp} {fs : Fs} {te ta tb : TE} {t : TT} {D : Ends} {ts tu tw tz : TS} {i : Nat} {v : V} {K : PySem.W.Frag}
theorem S.seq (h : N (ts { D with nx := tz D }) σ H0 fs) : N (tSeq ts tz D) σ H0 fs := h
theorem S.next (h : N D.nx σ H0 fs) : N (tNext D) σ H0 fs := h
theorem S.asg (h : W te σ H0 fs fun v f1 => N D.nx (σ.set i (some v)) H0 f1) : N (tAsg te (gName i) D) σ H0 fs := fun H k => h H k _ fun _ _ H1 k1 q => q H1 k1
theorem S.ret (h : W te σ H0 fs fun v f1 => NR D.rt v H0 f1) : N (tRet te D) σ H0 fs := fun H k => h H k _ fun _ _ H1 k1 q => q H1 k1
theorem S.drop (h : W te σ H0 fs fun _ f1 => N D.nx σ H0 f1) : N (tDrop te D) σ H0 fs := fun H k => h H k _ fun _ _ H1 k1 q => q H1 k1
theorem S.if_ (h : WT t σ H0 fs fun b f1 => (b = true → N (ts D) σ H0 f1) ∧ (b = false → N (tu D) σ H0 f1)) : N (tIfS t ts tu D) σ H0 fs := fun H k => h H k _ fun b _ H1 k1 q => by
  cases b with
  | true => exact (q.1 rfl) H1 k1
  | false => exact (q.2 rfl) H1 k1
/-- if t: x = e, one way: x has w behind it -/
theorem S.ifset (w : V) (h : WT t σ H0 fs fun b f1 => f1 = fs ∧ (b = true → W te σ H0 fs fun v f2 => v = w ∧ f2 = fs) ∧ (b = false → σ.set i (some w) = σ)) (hn : N D.nx (σ.set i (some w)) H0 fs) :
    N (tIfS t (tAsg te (gName i)) tNext D) σ H0 fs := fun H k => h H k _ fun b _ H1 k1 ⟨ef, q1, q2⟩ => by
  subst ef
  cases b with
  | true => exact q1 rfl H1 k1 _ fun v f2 H2 k2 ⟨e, e2⟩ => by subst e e2; exact hn H2 k2
  | false =>
    have := hn H1 k1
    rw [q2 rfl] at this
    exact this
/-- xs.append(e) -/
theorem S.app (h : W ta σ H0 fs fun x f1 => ∃ l, x = .ref l ∧ (∃ ys, Rl K H0 f1 l ys) ∧ W te σ H0 f1 fun v f2 => ∃ (xs : List V) (j : Nat), f2[j]? = some (l, .lst xs) ∧ xs.length < 1000000 ∧ N D.nx σ H0 (f2.set j (l, .lst (xs ++ [v])))) :
    N (tDrop (tBM K "list" rAppend ta (tCons te tNil)) D) σ H0 fs := fun H k => h H k _ fun _ _ H1 k1 ⟨l, e, ⟨ys, hy⟩, q⟩ => by
  subst e
  refine ⟨.inl ⟨rfl, ys, hy H1 k1⟩, q H1 k1 _ fun v f2 H2 k2 ⟨xs, j, hj, hl, n⟩ => ⟨l, xs, v, rfl, rfl, k2.get (List.mem_of_getElem? hj), sz_lt hl, n _ (k2.put hj)⟩⟩
/-- xs[i] = e -/
theorem S.setL (h : W te σ H0 fs fun v f1 => W ta σ H0 f1 fun x f2 => W tb σ H0 f2 fun y f3 => ∃ (l : Addr) (z : Int) (xs : List V) (j : Nat), x = .ref l ∧ y = .int z ∧ f3[j]? = some (l, .lst xs) ∧ (0 ≤ z ∧ z < (xs.length : Int)) ∧ N D.nx σ H0 (f3.set j (l, .lst (xs.set z.toNat v)))) :
    N (tAsg te (gSub ta tb rSetL) D) σ H0 fs := fun H k => h H k _ fun _ _ H1 k1 q => q H1 k1 _ fun _ _ H2 k2 q => q H2 k2 _ fun _ _ H3 k3 ⟨l, z, xs, j, e1, e2, hj, hz, n⟩ => by
  subst e1 e2
  exact ⟨l, xs, z, z.toNat, rfl, rfl, k3.get (List.mem_of_getElem? hj), ixN_int hz.1 hz.2, n _ (k3.put hj)⟩
/-- a, b, .. = e -/
theorem S.asgT {n : Nat} {g : TGs} (h : W te σ H0 fs fun v f1 => ∃ a xs, v = .ref a ∧ Rt K H0 f1 a xs ∧ xs.length = n ∧ ∀ H, Kn H0 f1 H → g xs σ H D.nx) : N (tAsg te (gTup K n g) D) σ H0 fs := fun H k =>
  h H k _ fun _ _ H1 k1 ⟨a, xs, e, hr, hl, q⟩ => ⟨a, xs, e, hr H1 k1, hl, q H1 k1⟩
/-- loops; I: what holds ahead of the i-th turn of the slots and the owned objects -/
structure Lp (H0 : Hp) (I : Nat → St → Fs → Prop) (i : Nat) (σ : St) (H : Hp) : Prop where
  ex : ∃ fs, Kn H0 fs H ∧ I i σ fs
theorem Lp.nx {I : Nat → St → Fs → Prop} {i : Nat} (h : I i σ fs) : N (Lp H0 I i) σ H0 fs := fun _ k => ⟨fs, k, h⟩
theorem Lp.sub {I : Nat → St → Fs → Prop} {i : Nat} (f1 : Fs) (s : List.Sublist f1 fs) (h : I i σ f1) : N (Lp H0 I i) σ H0 fs := fun _ k => ⟨f1, k.sub s, h⟩
theorem S.forR {ta : TA} {j : Nat} {n : Int} (I : Nat → St → Fs → Prop)
    (h : WA ta σ H0 fs fun vs f1 => vs = [.int n] ∧ n ≤ 1000000 ∧ -1000000 ≤ n ∧ I 0 σ f1)
    (hs : ∀ (i : Nat) σ' f', (i : Int) < n → I i σ' f' → N (ts { D with nx := Lp H0 I (i + 1), ct := Lp H0 I (i + 1), bk := D.nx }) (σ'.set j (some (.int (i : Int)))) H0 f')
    (hd : ∀ σ' f', I n.toNat σ' f' → N D.nx σ' H0 f') : N (tFor (iRng1 ta) (gName j) ts D) σ H0 fs := fun H k =>
  h H k _ fun vs f1 H1 k1 ⟨e, hn, hm, h0⟩ => by
    refine ⟨n, e, by omega, by omega, for_range (lo := 0) (n := n.toNat) (Lp H0 I) ⟨f1, k1, h0⟩ (fun i σ' H' hi p => ?_) (fun σ' H' p => ?_)⟩
    · obtain ⟨f', k', p⟩ := p.ex
      have e0 : (0 : Int) + (i : Int) = (i : Int) := Int.zero_add _
      show ts _ (σ'.set j (some (.int ((0 : Int) + (i : Int))))) H'
      rw [e0]
      exact hs i σ' f' (by omega) p H' k'
    · obtain ⟨f', k', p⟩ := p.ex
      exact hd σ' f' p H' k'
theorem S.forR2 {ta : TA} {j : Nat} {lo n : Int} (I : Nat → St → Fs → Prop)
    (h : WA ta σ H0 fs fun vs f1 => vs = [.int lo, .int n] ∧ (n ≤ 1000000 ∧ -1000000 ≤ n ∧ lo ≤ 1000000 ∧ -1000000 ≤ lo) ∧ I 0 σ f1)
    (hs : ∀ (i : Nat) σ' f', lo + (i : Int) < n → I i σ' f' → N (ts { D with nx := Lp H0 I (i + 1), ct := Lp H0 I (i + 1), bk := D.nx }) (σ'.set j (some (.int (lo + (i : Int))))) H0 f')
    (hd : ∀ σ' f', I (n - lo).toNat σ' f' → N D.nx σ' H0 f') : N (tFor (iRng2 ta) (gName j) ts D) σ H0 fs := fun H k =>
  h H k _ fun vs f1 H1 k1 ⟨e, hn, h0⟩ => by
    refine ⟨lo, n, e, ⟨by omega, by omega, by omega, by omega⟩, for_range (lo := lo) (n := (n - lo).toNat) (Lp H0 I) ⟨f1, k1, h0⟩ (fun i σ' H' hi p => ?_) (fun σ' H' p => ?_)⟩
    · obtain ⟨f', k', p⟩ := p.ex
      exact hs i σ' f' (by omega) p H' k'
    · obtain ⟨f', k', p⟩ := p.ex
      exact hd σ' f' p H' k'
/-- over a list that the body leaves as it is -/
theorem S.forL {a : Addr} {xs : List V} {g : TG} (I : Nat → St → Fs → Prop)
    (h : W te σ H0 fs fun v f1 => v = .ref a ∧ Rl K H0 f1 a xs ∧ I 0 σ f1)
    (hl : ∀ i σ' f', I i σ' f' → Rl K H0 f' a xs)
    (hs : ∀ (i : Nat) x σ' f', xs[i]? = some x → I i σ' f' → ∀ H, Kn H0 f' H → g x σ' H fun σ2 H2 => ts { D with nx := Lp H0 I (i + 1), ct := Lp H0 I (i + 1), bk := D.nx } σ2 H2)
    (hd : ∀ σ' f', I xs.length σ' f' → N D.nx σ' H0 f') : N (tFor (iList K te) g ts D) σ H0 fs := fun H k =>
  h H k _ fun v f1 H1 k1 ⟨e, hr, h0⟩ => by
    refine ⟨a, e, ⟨xs, hr H1 k1⟩, for_list (K := K) (a := a) (xs := xs) (Lp H0 I) ⟨f1, k1, h0⟩ (fun i σ' H' _ p => ?_) (fun i x σ' H' hx p => ?_) (fun σ' H' p => ?_)⟩
    · obtain ⟨f', k', p⟩ := p.ex
      exact hl i σ' f' p H' k'
    · obtain ⟨f', k', p⟩ := p.ex
      exact hs i x σ' f' hx p H' k'
    · obtain ⟨f', k', p⟩ := p.ex
      exact hd σ' f' p H' k'
/-- .. its items ints, its target a name -/
theorem S.forZ {a : Addr} {ns : List Int} {j : Nat} (I : Nat → St → Fs → Prop)
    (h : W te σ H0 fs fun v f1 => v = .ref a ∧ Rl K H0 f1 a (zV ns) ∧ I 0 σ f1)
    (hl : ∀ i σ' f', I i σ' f' → Rl K H0 f' a (zV ns))
    (hs : ∀ (i : Nat) σ' f', i < ns.length → I i σ' f' → N (ts { D with nx := Lp H0 I (i + 1), ct := Lp H0 I (i + 1), bk := D.nx }) (σ'.set j (some (.int (ns.getD i 0)))) H0 f')
    (hd : ∀ σ' f', I ns.length σ' f' → N D.nx σ' H0 f') : N (tFor (iList K te) (gName j) ts D) σ H0 fs := by
  refine S.forL (xs := zV ns) I h hl (fun i x σ' f' hx p H k => ?_) (fun σ' f' p => hd σ' f' (by rw [zV_length] at p; exact p))
  obtain ⟨hi, e⟩ := List.getElem?_eq_some_iff.mp hx
  rw [zV_length] at hi
  have e2 : x = .int (ns.getD i 0) := by
    have := zV_get (ns := ns) (i := i) (x := ns[i]) (List.getElem?_eq_getElem hi)
    rw [hx] at this
    rw [Option.some.inj this, List.getD_eq_getElem?_getD, List.getElem?_eq_getElem hi]; rfl
  subst e2
  exact hs i σ' f' hi p H k
/-- reversed(a list of ints) -/
theorem S.forRev {ta : TA} {a : Addr} {ns : List Int} {j : Nat} (I : Nat → St → Fs → Prop)
    (h : WA ta σ H0 fs fun vs f1 => vs = [.ref a] ∧ Rl K H0 f1 a (zV ns) ∧ I 0 σ f1)
    (hl : ∀ i σ' f', I i σ' f' → Rl K H0 f' a (zV ns))
    (hs : ∀ (i : Nat) σ' f', i < ns.length → I i σ' f' → N (ts { D with nx := Lp H0 I (i + 1), ct := Lp H0 I (i + 1), bk := D.nx }) (σ'.set j (some (.int (ns.reverse.getD i 0)))) H0 f')
    (hd : ∀ σ' f', I ns.length σ' f' → N D.nx σ' H0 f') : N (tFor (iRev K ta) (gName j) ts D) σ H0 fs := fun H k =>
  h H k _ fun vs f1 H1 k1 ⟨e, hr, h0⟩ => by
    refine ⟨a, zV ns, e, hr H1 k1, RT.for_Itv (K := K) (a := a) (xs := zV ns) (Lp H0 I) ⟨f1, k1, h0⟩ (fun i σ' H' p => ?_) (fun i x σ' H' hi hx p => ?_) (fun σ' H' p => ?_)⟩
    · obtain ⟨f', k', p⟩ := p.ex
      exact hl i σ' f' p H' k'
    · obtain ⟨f', k', p⟩ := p.ex
      rw [zV_length] at hi hx
      have hb : ns.length - 1 - i < ns.length := by omega
      have e2 : x = .int (ns.reverse.getD i 0) := by
        have := zV_get (ns := ns) (i := ns.length - 1 - i) (x := ns[ns.length - 1 - i]) (List.getElem?_eq_getElem hb)
        rw [hx] at this
        rw [Option.some.inj this, List.getD_eq_getElem?_getD, List.getElem?_reverse hi, List.getElem?_eq_getElem hb]; rfl
      subst e2
      exact hs i σ' f' hi p H' k'
    · obtain ⟨f', k', p⟩ := p.ex
      rw [zV_length] at p
      exact hd σ' f' p H' k'
/-- range(n), n written: turn by turn -/
structure Un (H0 : Hp) (I : St → Fs → Prop) (σ : St) (H : Hp) : Prop where
  ex : ∃ fs, Kn H0 fs H ∧ I σ fs
theorem Un.nx {I : St → Fs → Prop} (h : I σ fs) : N (Un H0 I) σ H0 fs := fun _ k => ⟨fs, k, h⟩
def UU (H0 : Hp) (ts : TS) (D : Ends) (j : Nat) : Nat → Nat → St → Fs → Prop
  | 0, _, σ, f => N D.nx σ H0 f
  | m + 1, i, σ, f => N (ts { D with nx := Un H0 (UU H0 ts D j m (i + 1)), ct := Un H0 (UU H0 ts D j m (i + 1)), bk := D.nx }) (σ.set j (some (.int (i : Int)))) H0 f
theorem UU.zero {j i : Nat} (h : N D.nx σ H0 fs) : UU H0 ts D j 0 i σ fs := h
theorem UU.succ {j i m : Nat} (h : N (ts { D with nx := Un H0 (UU H0 ts D j m (i + 1)), ct := Un H0 (UU H0 ts D j m (i + 1)), bk := D.nx }) (σ.set j (some (.int (i : Int)))) H0 fs) : UU H0 ts D j (m + 1) i σ fs := h
theorem S.forU {ta : TA} {j : Nat} (n : Nat) (h : WA ta σ H0 fs fun vs f1 => vs = [.int (n : Int)] ∧ n ≤ 1000000 ∧ UU H0 ts D j n 0 σ f1) : N (tFor (iRng1 ta) (gName j) ts D) σ H0 fs := fun H k =>
  h H k _ fun vs f1 H1 k1 ⟨e, hn, h0⟩ => by
    refine ⟨(n : Int), e, by omega, by omega, for_range (lo := 0) (n := ((n : Int)).toNat) (fun i σ H => ∃ m f, m + i = n ∧ Kn H0 f H ∧ UU H0 ts D j m i σ f) ⟨n, f1, by omega, k1, h0⟩ (fun i σ' H' hi p => ?_) (fun σ' H' p => ?_)⟩
    · obtain ⟨m, f, hm, k', p⟩ := p
      obtain ⟨m, rfl⟩ : ∃ m', m = m' + 1 := ⟨m - 1, by omega⟩
      have e0 : (0 : Int) + (i : Int) = (i : Int) := Int.zero_add _
      show ts _ (σ'.set j (some (.int ((0 : Int) + (i : Int))))) H'
      rw [e0]
      have q := p H' k'
      have ee : Un H0 (UU H0 ts D j m (i + 1)) = fun σ H => ∃ m f, m + (i + 1) = n ∧ Kn H0 f H ∧ UU H0 ts D j m (i + 1) σ f := by
        funext σ2 H2
        refine propext ⟨fun ⟨f, k2, u⟩ => ⟨m, f, by omega, k2, u⟩, fun ⟨m', f, hm', k2, u⟩ => ⟨f, k2, ?_⟩⟩
        have : m' = m := by omega
        subst this
        exact u
      rw [ee] at q
      exact q
    · obtain ⟨m, f, hm, k', p⟩ := p
      have : m = 0 := by omega
      subst this
      exact p H' k'
/-- a statement, then the rest, with a word between them -/
def tCut (t u : TS) : TS := fun D σ H => ∃ Mid : St → Hp → Prop, t { D with nx := Mid } σ H ∧ ∀ σ' H', Mid σ' H' → u D σ' H'
theorem pss_cut {X : Cx} {st : Stmt} {rest : List Stmt} {t u : TS} (h1 : PS X st t) (h2 : PSs X rest u) : PSs X (st :: rest) (tCut t u) := by
  refine ⟨fun pins s σ H D I h => ?_⟩
  obtain ⟨Mid, hm, hu⟩ := h
  refine wpAny_execs_cons (thn (h1.run pins s σ H { D with nx := Mid } I hm) fun f s1 q => ?_)
  cases f with
  | next =>
    obtain ⟨σ', H', I', q⟩ := q
    exact h2.run pins s1 σ' H' D I' (hu σ' H' q)
  | ret v => exact q
  | brk => exact q
  | cont => exact q
theorem S.cut (I : St → Fs → Prop) (h : N (ts { D with nx := Un H0 I }) σ H0 fs) (k : ∀ σ' f', I σ' f' → N (tz D) σ' H0 f') : N (tCut ts tz D) σ H0 fs := fun H kn =>
  ⟨Un H0 I, h H kn, fun σ' H' ⟨⟨f', k', i⟩⟩ => k σ' f' i H' k'⟩
theorem Un.sub {I : St → Fs → Prop} (f1 : Fs) (s : List.Sublist f1 fs) (h : I σ f1) : N (Un H0 I) σ H0 fs := fun _ k => ⟨f1, k.sub s, h⟩
/-- while; I: what holds, by a number that falls -/
structure Wl (H0 : Hp) (I : Nat → St → Fs → Prop) (m : Nat) (σ : St) (H : Hp) : Prop where
  ex : ∃ m', m' < m ∧ ∃ fs, Kn H0 fs H ∧ I m' σ fs
theorem Wl.nx {I : Nat → St → Fs → Prop} {m m' : Nat} (hm : m' < m) (h : I m' σ fs) : N (Wl H0 I m) σ H0 fs := fun _ k => ⟨m', hm, fs, k, h⟩
theorem Wl.sub {I : Nat → St → Fs → Prop} {m m' : Nat} (f1 : Fs) (s : List.Sublist f1 fs) (hm : m' < m) (h : I m' σ f1) : N (Wl H0 I m) σ H0 fs := fun _ k => ⟨m', hm, f1, k.sub s, h⟩
theorem S.while_ (I : Nat → St → Fs → Prop) (m0 : Nat) (h0 : I m0 σ fs)
    (hs : ∀ m σ' f', I m σ' f' → WT t σ' H0 f' fun b f1 => (b = true → N (ts { D with nx := Wl H0 I m, ct := Wl H0 I m, bk := D.nx }) σ' H0 f1) ∧ (b = false → N D.nx σ' H0 f1)) :
    N (tWhile t ts D) σ H0 fs := fun H k => by
  refine ⟨fun m σ H => ∃ fs, Kn H0 fs H ∧ I m σ fs, ⟨m0, fs, k, h0⟩, fun m σ' H' ⟨f', k', p⟩ => ?_⟩
  refine hs m σ' f' p H' k' _ fun b f1 H1 k1 q => ?_
  cases b with
  | true =>
    show ∃ N' : St → Hp → Prop, _
    exact ⟨Wl H0 I m, fun σ2 H2 w => w.ex, (q.1 rfl) H1 k1⟩
  | false => exact (q.2 rfl) H1 k1
end

/-! ### comprehensions whose items are all kept -/
section
variable {σ : St} {H0 : Hp} {fs : Fs} {Φ : CV} {te tl : TE} {K : PySem.W.Frag}
/-- over range(n): the i-th item is f i; the item's reading leaves the owned objects as they are (or drops what it made) -/
theorem W.lcR {ta : TA} {j : Nat} {vs : List Nat} {n : Int} (f : Nat → V)
    (h : WA ta σ H0 fs fun us f1 => us = [.int n] ∧ n ≤ 100000 ∧ -100000 ≤ n ∧
      (∀ x, wipe ((wipe σ vs).set j (some x)) vs = wipe σ vs) ∧
      (∀ (i : Nat) (D : Addr) (acc : List V), (i : Int) < n → W te ((wipe σ vs).set j (some (.int (i : Int)))) H0 ((D, .lst acc) :: f1) fun v f2 => v = f i ∧ List.Sublist ((D, .lst acc) :: f1) f2) ∧
      ∀ D, Φ (.ref D) ((D, .lst ((List.range n.toNat).map f)) :: f1)) : W (tLc (iRng1 ta) (gName j) tYes te vs) σ H0 fs Φ := fun H k Q c =>
  h H k _ fun us f1 H1 k1 ⟨e, hn, hm, hw, hs, hd⟩ => by
    refine ⟨n, e, by omega, by omega, fun D hD => ?_⟩
    refine lc_range (lo := 0) (n := n.toNat) (fun i H' => Kn H0 ((D, .lst ((List.range i).map f)) :: f1) H') (k1.new hD) (fun i H' hi p => ?_) (fun H' p => c _ _ _ p (hd D))
    have e0 : (0 : Int) + (i : Int) = (i : Int) := Int.zero_add _
    refine ⟨hw _, ?_⟩
    show te ((wipe σ vs).set j (some (.int ((0 : Int) + (i : Int))))) H' _
    rw [e0]
    refine hs i D _ (by omega) H' p _ fun v f2 H2 k2 ⟨ev, sb⟩ => ?_
    subst ev
    have k3 := k2.sub sb
    refine ⟨_, k3.get (.head _), sz_lt (by simp; omega), ?_⟩
    have k4 := k3.put (i := 0) (o' := .lst ((List.range i).map f ++ [f i])) rfl
    show Kn H0 ((D, .lst ((List.range (i + 1)).map f)) :: f1) _
    rw [List.range_succ, List.map_append]
    exact k4
/-- over a list of ints -/
theorem W.lcZ {ns : List Int} {j : Nat} {vs : List Nat} (f : Int → V)
    (h : W tl σ H0 fs fun v f1 => ∃ a, v = .ref a ∧ Rl K H0 f1 a (zV ns) ∧ ns.length ≤ 100000 ∧
      (∀ x, wipe ((wipe σ vs).set j (some x)) vs = wipe σ vs) ∧
      (∀ (x : Int) (D : Addr) (acc : List V), x ∈ ns → W te ((wipe σ vs).set j (some (.int x))) H0 ((D, .lst acc) :: f1) fun v f2 => v = f x ∧ List.Sublist ((D, .lst acc) :: f1) f2) ∧
      ∀ D, Φ (.ref D) ((D, .lst (ns.map f)) :: f1)) : W (tLc (iList K tl) (gName j) tYes te vs) σ H0 fs Φ := fun H k Q c =>
  h H k _ fun v f1 H1 k1 ⟨a, e, hr, hn, hw, hs, hd⟩ => by
    refine ⟨a, e, ⟨_, hr H1 k1⟩, fun D hD => ?_⟩
    refine lc_list (K := K) (a := a) (xs := zV ns) (fun i H' => Kn H0 ((D, .lst ((ns.take i).map f)) :: f1) H') (k1.new hD) (fun i H' _ p => hr H' p.drop) (fun i x H' hi p => ?_) (fun H' p => ?_)
    · obtain ⟨hl, e1⟩ := List.getElem?_eq_some_iff.mp hi
      rw [zV_length] at hl
      have e2 : x = .int ns[i] := by
        have := zV_get (ns := ns) (i := i) (x := ns[i]) (List.getElem?_eq_getElem hl)
        rw [hi] at this
        exact Option.some.inj this
      subst e2
      refine ⟨hw _, ?_⟩
      refine hs ns[i] D _ (List.getElem_mem hl) H' p _ fun v f2 H2 k2 ⟨ev, sb⟩ => ?_
      subst ev
      have k3 := k2.sub sb
      refine ⟨_, k3.get (.head _), sz_lt (by simp; omega), ?_⟩
      have k4 := k3.put (i := 0) (o' := .lst ((ns.take i).map f ++ [f ns[i]])) rfl
      show Kn H0 ((D, .lst ((ns.take (i + 1)).map f)) :: f1) _
      rw [List.take_add_one, List.getElem?_eq_getElem hl, List.map_append]
      exact k4
    · rw [zV_length, List.take_length] at p
      exact c _ _ _ p (hd D)
end
end Pa

namespace Pa
open PySem PySem.Spec PyProof.Rows L2

/-! ### products, quotients -/
section
variable {X : Cx}
theorem op_mulG : OpR X (binaryOp .Mult) (rI IntMulOk fun i j => .int (i * j)) := opI fun _ _ _ _ _ _ _ hc q => mul_int q hc
theorem op_addS : OpR X (binaryOp .Add) (fun x y H Q => ∃ i j, x = .str i ∧ y = .str j ∧ i.length + j.length ≤ sizeLine ∧ Q (.str (i ++ j)) H) := op_add_str
end
theorem mulL {i j : Int} (h1 : -(2 ^ 64) < i) (h2 : i < 2 ^ 64) : IntMulOk i j := .of_left (intBits_le_64 h1 h2)
theorem mulR {i j : Int} (h1 : -(2 ^ 64) < j) (h2 : j < 2 ^ 64) : IntMulOk i j := .of_right (intBits_le_64 h1 h2)
theorem bits_of {i : Int} {a : Nat} (h : i.natAbs < 2 ^ a) : Builtin.Int.intBits i ≤ a := by
  unfold Builtin.Int.intBits
  split
  · exact Nat.zero_le _
  · by_cases h0 : i.natAbs = 0
    · rename_i hi
      exact absurd (by simpa using (Int.natAbs_eq_zero.mp h0)) hi
    · have := (Nat.log2_lt h0).mpr h
      omega
theorem mulB {i j : Int} {a b : Nat} (ha : i.natAbs < 2 ^ a) (hb : j.natAbs < 2 ^ b) (h : a + b ≤ 134217728) : IntMulOk i j := by
  have h1 := bits_of ha
  have h2 := bits_of hb
  have e : bitsLine = 134217728 := by decide
  unfold IntMulOk
  intro z
  rw [Bool.and_eq_true] at z
  have z2 := z.2
  unfold Builtin.Int.intTooBig at z2
  have z3 := of_decide_eq_true z2
  rw [e] at z3
  omega

/-! ### comprehensions of ints -/
section
variable {σ : St} {H0 : Hp} {fs : Fs} {Φ : CV} {te tl : TE} {K : PySem.W.Frag}
theorem map_zV {α : Type} (l : List α) (g : α → Int) : l.map (fun i => V.int (g i)) = zV (l.map g) := by
  unfold zV; rw [List.map_map]; rfl
theorem W.lcRz {ta : TA} {j : Nat} {vs : List Nat} {n : Int} (g : Nat → Int)
    (h : WA ta σ H0 fs fun us f1 => us = [.int n] ∧ n ≤ 100000 ∧ -100000 ≤ n ∧
      (∀ x, wipe ((wipe σ vs).set j (some x)) vs = wipe σ vs) ∧
      (∀ (i : Nat) (D : Addr) (acc : List V), (i : Int) < n → W te ((wipe σ vs).set j (some (.int (i : Int)))) H0 ((D, .lst acc) :: f1) fun v f2 => v = .int (g i) ∧ List.Sublist ((D, .lst acc) :: f1) f2) ∧
      ∀ D, Φ (.ref D) ((D, .lst (zV ((List.range n.toNat).map g))) :: f1)) : W (tLc (iRng1 ta) (gName j) tYes te vs) σ H0 fs Φ := by
  refine W.lcR (n := n) (fun i => .int (g i)) ?_
  rw [map_zV]
  exact h
theorem W.lcZz {ns : List Int} {j : Nat} {vs : List Nat} (g : Int → Int)
    (h : W tl σ H0 fs fun v f1 => ∃ a, v = .ref a ∧ Rl K H0 f1 a (zV ns) ∧ ns.length ≤ 100000 ∧
      (∀ x, wipe ((wipe σ vs).set j (some x)) vs = wipe σ vs) ∧
      (∀ (x : Int) (D : Addr) (acc : List V), x ∈ ns → W te ((wipe σ vs).set j (some (.int x))) H0 ((D, .lst acc) :: f1) fun v f2 => v = .int (g x) ∧ List.Sublist ((D, .lst acc) :: f1) f2) ∧
      ∀ D, Φ (.ref D) ((D, .lst (zV (ns.map g))) :: f1)) : W (tLc (iList K tl) (gName j) tYes te vs) σ H0 fs Φ := by
  refine W.lcZ (ns := ns) (fun i => .int (g i)) ?_
  rw [map_zV]
  exact h
end

/-! ### isinstance -/
section
variable {H0 : Hp} {fs : Fs} {Φ : CV} {K : PySem.W.Frag}
theorem RC.isiII {i : Int} (q : Φ (.bl true) fs) : RC (rIsi K) [.int i, .ty "int"] H0 fs Φ := RC.isi (fun _ _ => .base (.int i)) (kit_ty (by decide +kernel)) q
theorem RC.isiIB {i : Int} (q : Φ (.bl false) fs) : RC (rIsi K) [.int i, .ty "bool"] H0 fs Φ := RC.isi (fun _ _ => .base (.int i)) (kit_ty (by decide +kernel)) q
theorem RC.isiBB {b : Bool} (q : Φ (.bl true) fs) : RC (rIsi K) [.bl b, .ty "bool"] H0 fs Φ := RC.isi (fun _ _ => .base (.bl b)) (kit_ty (by decide +kernel)) q
theorem RC.isiSI {x : Str} (q : Φ (.bl false) fs) : RC (rIsi K) [.str x, .ty "int"] H0 fs Φ := RC.isi (fun _ _ => .base (.str x)) (kit_ty (by decide +kernel)) q
theorem RC.isiSB {x : Str} (q : Φ (.bl false) fs) : RC (rIsi K) [.str x, .ty "bool"] H0 fs Φ := RC.isi (fun _ _ => .base (.str x)) (kit_ty (by decide +kernel)) q
theorem RC.isiSS {x : Str} (q : Φ (.bl true) fs) : RC (rIsi K) [.str x, .ty "str"] H0 fs Φ := RC.isi (fun _ _ => .base (.str x)) (kit_ty (by decide +kernel)) q
theorem RC.isiNI (q : Φ (.bl false) fs) : RC (rIsi K) [.non, .ty "int"] H0 fs Φ := RC.isi (fun _ _ => .base .non) (kit_ty (by decide +kernel)) q
theorem RC.isiNB (q : Φ (.bl false) fs) : RC (rIsi K) [.non, .ty "bool"] H0 fs Φ := RC.isi (fun _ _ => .base .non) (kit_ty (by decide +kernel)) q
theorem RC.isiLL {p : Addr} {xs : List V} (h : Rx H0 fs p (.lst xs)) (q : Φ (.bl true) fs) : RC (rIsi K) [.ref p, .ty "list"] H0 fs Φ := RC.isi (fun H k => .base (.lst (h H k))) (kit_ty (by decide +kernel)) q
theorem RC.isiTT {p : Addr} {xs : List V} (h : Rx H0 fs p (.tup xs)) (q : Φ (.bl true) fs) : RC (rIsi K) [.ref p, .ty "tuple"] H0 fs Φ := RC.isi (fun H k => .base (.tup (h H k))) (kit_ty (by decide +kernel)) q
theorem RC.isiLI {p : Addr} {xs : List V} (h : Rx H0 fs p (.lst xs)) (q : Φ (.bl false) fs) : RC (rIsi K) [.ref p, .ty "int"] H0 fs Φ := RC.isi (fun H k => .base (.lst (h H k))) (kit_ty (by decide +kernel)) q
theorem RC.isiLB {p : Addr} {xs : List V} (h : Rx H0 fs p (.lst xs)) (q : Φ (.bl false) fs) : RC (rIsi K) [.ref p, .ty "bool"] H0 fs Φ := RC.isi (fun H k => .base (.lst (h H k))) (kit_ty (by decide +kernel)) q
theorem RC.isiTI {p : Addr} {xs : List V} (h : Rx H0 fs p (.tup xs)) (q : Φ (.bl false) fs) : RC (rIsi K) [.ref p, .ty "int"] H0 fs Φ := RC.isi (fun H k => .base (.tup (h H k))) (kit_ty (by decide +kernel)) q
theorem RC.isiTB {p : Addr} {xs : List V} (h : Rx H0 fs p (.tup xs)) (q : Φ (.bl false) fs) : RC (rIsi K) [.ref p, .ty "bool"] H0 fs Φ := RC.isi (fun H k => .base (.tup (h H k))) (kit_ty (by decide +kernel)) q
end

/-! ### the ends -/
theorem N.go {t : TS} {D : Ends} {σ : St} {H : Hp} (h : N (t D) σ H []) : t D σ H := h H (Same.refl H)
theorem NR.sub {Q : VK} {v : V} {H : Hp} {f1 f2 : Fs} (h : NR Q v H f1) (s : List.Sublist f1 f2) : NR Q v H f2 := fun H' k => h H' (k.sub s)
theorem NR.k {Q : VK} {v : V} {H : Hp} {f1 : Fs} (h : NR Q v H f1) {H' : Hp} (k : Kn H f1 H') : Q v H' := h H' k
end Pa

namespace Pa

/-! ### rows without noughts at their end -/
def trim (xs : List Int) : List Int := (xs.reverse.dropWhile (· == 0)).reverse
theorem trim_nil : trim [] = [] := rfl
theorem trim_zero (xs : List Int) : trim (xs ++ [0]) = trim xs := by
  unfold trim
  rw [List.reverse_append]
  rfl
theorem trim_last (xs : List Int) {x : Int} (h : x ≠ 0) : trim (xs ++ [x]) = xs ++ [x] := by
  unfold trim
  rw [List.reverse_append]
  show (List.dropWhile (· == 0) (x :: xs.reverse)).reverse = _
  rw [List.dropWhile_cons_of_neg (by simpa using h), List.reverse_cons, List.reverse_reverse]
/-- its last number is not nought -/
def Tr (xs : List Int) : Prop := trim xs = xs
theorem snoc_cases (xs : List Int) : xs = [] ∨ ∃ ys y, xs = ys ++ [y] := by
  cases h : xs.reverse with
  | nil => left; simpa using h
  | cons y ys => right; exact ⟨ys.reverse, y, by rw [← List.reverse_reverse xs, h, List.reverse_cons]⟩
theorem trim_cases (xs : List Int) : ∃ k, xs = trim xs ++ List.replicate k 0 ∧ (trim xs = [] ∨ ∃ ys y, trim xs = ys ++ [y] ∧ y ≠ 0) := by
  generalize hn : xs.length = n
  induction n generalizing xs with
  | zero =>
    have : xs = [] := List.length_eq_zero_iff.mp hn
    subst this
    exact ⟨0, rfl, .inl rfl⟩
  | succ n ih =>
    rcases snoc_cases xs with rfl | ⟨ys, y, rfl⟩
    · simp at hn
    · by_cases hy : y = 0
      · subst hy
        obtain ⟨k, e, c⟩ := ih ys (by simpa using hn)
        rw [trim_zero]
        refine ⟨k + 1, ?_, c⟩
        rw [List.replicate_succ', ← List.append_assoc, ← e]
      · refine ⟨0, ?_, .inr ⟨ys, y, trim_last ys hy, hy⟩⟩
        rw [trim_last ys hy]; simp
theorem tr_trim (xs : List Int) : Tr (trim xs) := by
  obtain ⟨k, e, c | ⟨ys, y, c, hy⟩⟩ := trim_cases xs
  · unfold Tr; rw [c]; rfl
  · unfold Tr; rw [c, trim_last ys hy]
theorem trim_length_le (xs : List Int) : (trim xs).length ≤ xs.length := by
  obtain ⟨k, e, _⟩ := trim_cases xs
  have := congrArg List.length e
  rw [List.length_append] at this
  omega
theorem mem_trim {xs : List Int} {x : Int} (h : x ∈ trim xs) : x ∈ xs := by
  obtain ⟨k, e, _⟩ := trim_cases xs
  rw [e]; exact List.mem_append_left _ h
theorem tr_nil : Tr [] := rfl
theorem tr_last {xs : List Int} (h : Tr xs) (hne : xs ≠ []) : xs.getLast hne ≠ 0 := by
  rcases snoc_cases xs with rfl | ⟨ys, y, rfl⟩
  · exact absurd rfl hne
  · rw [show (ys ++ [y]).getLast hne = y by simp]
    intro hy
    subst hy
    unfold Tr at h
    rw [trim_zero] at h
    have := congrArg List.length h
    have h2 := trim_length_le ys
    simp at this
    omega
theorem tr_of_last {ys : List Int} {y : Int} (h : y ≠ 0) : Tr (ys ++ [y]) := trim_last ys h
theorem take_succ_getD {xs : List Int} {n : Nat} (h : n < xs.length) : xs.take (n + 1) = xs.take n ++ [xs.getD n 0] := by
  rw [List.take_add_one, List.getElem?_eq_getElem h, List.getD_eq_getElem?_getD, List.getElem?_eq_getElem h]; rfl

/-! ### bounds -/
def Bd (a : Nat) (x : Int) : Prop := x.natAbs < 2 ^ a
def BdL (a : Nat) (xs : List Int) : Prop := ∀ x ∈ xs, x.natAbs < 2 ^ a
theorem Bd.mono {a b : Nat} {x : Int} (h : Bd a x) (hab : a ≤ b) : Bd b x := Nat.lt_of_lt_of_le h (Nat.pow_le_pow_right (by decide) hab)
theorem BdL.mono {a b : Nat} {xs : List Int} (h : BdL a xs) (hab : a ≤ b) : BdL b xs := fun x hx => Bd.mono (h x hx) hab
theorem Bd.mul {a b : Nat} {x y : Int} (hx : Bd a x) (hy : Bd b y) : Bd (a + b) (x * y) := by
  unfold Bd at *
  rw [Int.natAbs_mul, Nat.pow_add]
  exact Nat.mul_lt_mul'' hx hy
theorem Bd.add {a : Nat} {x y : Int} (hx : Bd a x) (hy : Bd a y) : Bd (a + 1) (x + y) := by
  unfold Bd at *
  have := Int.natAbs_add_le x y
  rw [Nat.pow_succ]; omega
theorem Bd.neg {a : Nat} {x : Int} (hx : Bd a x) : Bd a (-x) := by
  unfold Bd at *; rw [Int.natAbs_neg]; exact hx
theorem Bd.sub {a : Nat} {x y : Int} (hx : Bd a x) (hy : Bd a y) : Bd (a + 1) (x - y) := by
  rw [Int.sub_eq_add_neg]; exact hx.add hy.neg
theorem Bd.zero {a : Nat} : Bd a 0 := by
  unfold Bd; exact Nat.two_pow_pos a
theorem BdL.trim {a : Nat} {xs : List Int} (h : BdL a xs) : BdL a (trim xs) := fun x hx => h x (mem_trim hx)
theorem BdL.at {a : Nat} {xs : List Int} (h : BdL a xs) (i : Nat) : Bd a (xs.getD i 0) := by
  rw [List.getD_eq_getElem?_getD]
  cases e : xs[i]? with
  | none => exact Bd.zero
  | some x => exact h x (List.mem_of_getElem? e)
theorem BdL.gat {a : Nat} {xs : List Int} (h : BdL a xs) (i : Int) : Bd a (gat xs i) := h.at i.toNat
theorem BdL.nil {a : Nat} : BdL a [] := fun _ h => nomatch h
theorem Bd.of_abs {a : Nat} {x : Int} {n : Nat} (h : x.natAbs ≤ n) (hn : n < 2 ^ a) : Bd a x := Nat.lt_of_le_of_lt h hn

/-! ### sums -/
def plus (xs ys : List Int) : List Int := trim ((List.range (max (xs.length : Int) (ys.length : Int)).toNat).map fun (k : Nat) => gat xs (k : Int) + gat ys (k : Int))
def minus (xs ys : List Int) : List Int := trim ((List.range (max (xs.length : Int) (ys.length : Int)).toNat).map fun (k : Nat) => gat xs (k : Int) - gat ys (k : Int))
def scaled (xs : List Int) (m : Int) : List Int := trim (xs.map fun x => m * x)
theorem plus_len (xs ys : List Int) : (plus xs ys).length ≤ max xs.length ys.length := by
  unfold plus
  refine Nat.le_trans (trim_length_le _) ?_
  rw [List.length_map, List.length_range]; omega
theorem minus_len (xs ys : List Int) : (minus xs ys).length ≤ max xs.length ys.length := by
  unfold minus
  refine Nat.le_trans (trim_length_le _) ?_
  rw [List.length_map, List.length_range]; omega
theorem scaled_len (xs : List Int) (m : Int) : (scaled xs m).length ≤ xs.length := by
  unfold scaled
  refine Nat.le_trans (trim_length_le _) ?_
  rw [List.length_map]; omega
theorem plus_bd {a : Nat} {xs ys : List Int} (hx : BdL a xs) (hy : BdL a ys) : BdL (a + 1) (plus xs ys) := by
  refine BdL.trim fun z hz => ?_
  obtain ⟨k, _, rfl⟩ := List.mem_map.mp hz
  exact (hx.gat _).add (hy.gat _)
theorem minus_bd {a : Nat} {xs ys : List Int} (hx : BdL a xs) (hy : BdL a ys) : BdL (a + 1) (minus xs ys) := by
  refine BdL.trim fun z hz => ?_
  obtain ⟨k, _, rfl⟩ := List.mem_map.mp hz
  exact (hx.gat _).sub (hy.gat _)
theorem scaled_bd {a b : Nat} {xs : List Int} {m : Int} (hx : BdL a xs) (hm : Bd b m) : BdL (b + a) (scaled xs m) := by
  refine BdL.trim fun z hz => ?_
  obtain ⟨k, hk, rfl⟩ := List.mem_map.mp hz
  exact hm.mul (hx k hk)

/-! ### the value -/
def pval : List Int → Int → Int
  | [], _ => 0
  | a :: r, x => a + x * pval r x
theorem pval_append (xs ys : List Int) (x : Int) : pval (xs ++ ys) x = pval xs x + x ^ xs.length * pval ys x := by
  induction xs with
  | nil => simp [pval]
  | cons a r ih =>
    simp only [List.cons_append, pval, ih, List.length_cons, Int.pow_succ]
    rw [Int.mul_add, Int.add_assoc, ← Int.mul_assoc, Int.mul_comm x (x ^ r.length)]
theorem pval_take_succ {ns : List Int} {i : Nat} (h : i < ns.length) (x : Int) : pval (ns.take (i + 1)) x = pval (ns.take i) x + ns.getD i 0 * x ^ i := by
  rw [take_succ_getD h, pval_append, List.length_take, Nat.min_eq_left (Nat.le_of_lt h)]
  simp only [pval, Int.mul_zero, Int.add_zero]
  rw [Int.mul_comm (x ^ i)]
theorem drop_pred_getD {ns : List Int} {i : Nat} (h : i < ns.length) : ns.drop (ns.length - (i + 1)) = ns.reverse.getD i 0 :: ns.drop (ns.length - i) := by
  have hb : ns.length - 1 - i < ns.length := by omega
  rw [List.drop_eq_getElem_cons (by omega : ns.length - (i + 1) < ns.length), List.getD_eq_getElem?_getD, List.getElem?_reverse h, List.getElem?_eq_getElem hb]
  have e1 : ns.length - (i + 1) + 1 = ns.length - i := by omega
  have e2 : ns.length - (i + 1) = ns.length - 1 - i := by omega
  rw [e1]
  simp only [Option.getD_some, e2]
theorem pval_bd {a b : Nat} {x : Int} (hx : Bd b x) : ∀ {ns : List Int}, BdL a ns → Bd (a + (b + 1) * ns.length) (pval ns x)
  | [], _ => Bd.zero
  | n :: r, h => by
    have ih := pval_bd hx (ns := r) fun y hy => h y (List.mem_cons_of_mem _ hy)
    have h1 : Bd a n := h n List.mem_cons_self
    have h2 := hx.mul ih
    have h3 := (h1.mono (b := b + (a + (b + 1) * r.length)) (by omega)).add h2
    refine h3.mono ?_
    rw [List.length_cons, Nat.mul_succ]
    omega
theorem Bd.pow {b : Nat} {x : Int} (hx : Bd b x) : ∀ n : Nat, Bd (b * n + 1) (x ^ n)
  | 0 => by unfold Bd; simp
  | n + 1 => by
    rw [Int.pow_succ]
    exact ((Bd.pow hx n).mul hx).mono (by rw [Nat.mul_succ]; omega)
end Pa
namespace Pa
open PySem PySem.Spec PyProof.Rows L2
local macro_rules | `(tactic| walk_at "mem") => `(tactic| first | exact .head _ | (refine .tail _ ?_; walk_at "mem"))
local macro_rules | `(tactic| walk_at "rx") => `(tactic| first
  | with_reducible exact Rx.arg (by assumption) | exact Rx.own (by walk_at "mem") | exact Rx.arg (by assumption))
local macro_rules | `(tactic| walk_at "rl") => `(tactic| first
  | with_reducible exact Rl.x (Rx.arg (by assumption)) | exact Rl.x (Rx.own (by walk_at "mem")) | exact Rl.sq (by assumption) | exact Rl.x (Rx.arg (by assumption)))
local macro_rules | `(tactic| walk_at "rt") => `(tactic| first
  | with_reducible exact Rt.x (Rx.arg (by assumption)) | exact Rt.x (Rx.own (by walk_at "mem")) | exact Rt.x (Rx.arg (by assumption)))
local macro_rules | `(tactic| walk_at "sub") => `(tactic| (repeat (first | exact .slnil | exact .refl _ | apply List.Sublist.cons_cons | apply List.Sublist.cons)))
local macro_rules | `(tactic| walk_at "ok") => `(tactic| first
  | assumption | decide | omega | exact mulL (by omega) (by omega) | exact mulR (by omega) (by omega) | (refine ⟨?_, ?_⟩ <;> omega))
local macro_rules | `(tactic| walk_at "w1") => `(tactic| first
  | ((with_reducible refine' W.var ?h ?_); (case h => rfl))
  | with_reducible refine W.c ?_
  | with_reducible refine W.op ?_
  | with_reducible refine RW.i0 ?_
  | ((with_reducible refine' RW.i1 ?h ?_); (case h => walk_at "ok"))
  | with_reducible refine RW.eqI ?_
  | with_reducible refine RW.neI ?_
  | with_reducible refine RW.eqS ?_
  | with_reducible refine RW.neS ?_
  | ((with_reducible refine' RW.ixZ ?h ?h2 ?_); (case h => walk_at "rl"); (case h2 => walk_at "ok"))
  | ((with_reducible refine' RW.ixL ?h ?h2 ?_); (case h => walk_at "rl"); (case h2 => rfl))
  | ((with_reducible refine' RW.ixT ?h ?h2 ?_); (case h => walk_at "rt"); (case h2 => rfl))
  | with_reducible refine W.un ?_
  | with_reducible refine RU.int ?_
  | with_reducible refine WA.nil ?_
  | with_reducible refine WA.cons ?_
  | with_reducible refine W.cb ?_
  | with_reducible refine W.call ?_
  | ((with_reducible refine' RC.lenZ ?h ?_); (case h => walk_at "rl"))
  | ((with_reducible refine' RC.len ?h ?_); (case h => walk_at "rl"))
  | ((with_reducible refine' RC.lenT ?h ?_); (case h => walk_at "rt"))
  | ((with_reducible refine' RC.lenS ?h ?_); (case h => walk_at "ok"))
  | with_reducible refine RC.abs ?_
  | with_reducible refine RC.max2 ?_
  | with_reducible refine RC.min2 ?_
  | ((with_reducible refine' RC.listL ?h ?_); (case h => walk_at "rl"))
  | (with_reducible refine W.lst ?_)
  | (with_reducible refine W.tup ?_)
  | (with_reducible refine W.sl ?_)
  | (with_reducible refine WO.no ?_)
  | (with_reducible refine WO.part ?_)
  | ((with_reducible refine' RS.take ?h ?h2 ?_); (case h => walk_at "rl"); (case h2 => walk_at "ok"))
  | ((with_reducible refine' RS.drop ?h ?h2 ?_); (case h => walk_at "rl"); (case h2 => walk_at "ok"))
  | with_reducible refine RC.isiII ?_
  | with_reducible refine RC.isiIB ?_
  | ((with_reducible refine' RC.isiLL ?h ?_); (case h => walk_at "rx"))
  | ((with_reducible refine' RC.isiTT ?h ?_); (case h => walk_at "rx"))
  | with_reducible refine WT.test ?_
  | with_reducible refine WT.b ?_
  | with_reducible refine WT.not ?_
  | with_reducible refine WT.and ?_
  | with_reducible refine WT.or ?_
  | with_reducible refine W.andV ?_
  | with_reducible refine W.orV ?_
  | with_reducible refine W.notV ?_
  | with_reducible refine W.chain ?_
  | with_reducible refine S.seq ?_
  | ((with_reducible refine Un.nx ?_); (with_reducible refine UU.zero ?_))
  | ((with_reducible refine Un.nx ?_); (with_reducible refine UU.succ ?_))
  | with_reducible refine UU.succ ?_
  | with_reducible refine UU.zero ?_
  | with_reducible refine S.asg ?_
  | with_reducible refine S.ret ?_
  | with_reducible refine S.if_ ?_
  | with_reducible refine S.next ?_
  | (with_reducible refine ⟨_, rfl, ?_⟩)
  | refine And.intro (fun _ => ?_) (fun h => Bool.noConfusion h)
  | refine And.intro (fun h => Bool.noConfusion h) (fun _ => ?_))
local macro_rules | `(tactic| walk_at "v1") => `(tactic| first
  | ((with_reducible refine' W.var ?h ?_); (case h => rfl))
  | with_reducible refine W.c ?_
  | with_reducible refine W.op ?_
  | with_reducible refine RW.i0 ?_
  | ((with_reducible refine' RW.i1 ?h ?_); (case h => walk_at "ok"))
  | with_reducible refine RW.eqI ?_
  | with_reducible refine RW.neI ?_
  | with_reducible refine RW.eqS ?_
  | with_reducible refine RW.neS ?_
  | ((with_reducible refine' RW.ixZ ?h ?h2 ?_); (case h => walk_at "rl"); (case h2 => walk_at "ok"))
  | ((with_reducible refine' RW.ixL ?h ?h2 ?_); (case h => walk_at "rl"); (case h2 => rfl))
  | ((with_reducible refine' RW.ixT ?h ?h2 ?_); (case h => walk_at "rt"); (case h2 => rfl))
  | with_reducible refine W.un ?_
  | with_reducible refine RU.int ?_
  | with_reducible refine WA.nil ?_
  | with_reducible refine WA.cons ?_
  | with_reducible refine W.cb ?_
  | with_reducible refine W.call ?_
  | ((with_reducible refine' RC.lenZ ?h ?_); (case h => walk_at "rl"))
  | ((with_reducible refine' RC.len ?h ?_); (case h => walk_at "rl"))
  | ((with_reducible refine' RC.lenT ?h ?_); (case h => walk_at "rt"))
  | ((with_reducible refine' RC.lenS ?h ?_); (case h => walk_at "ok"))
  | with_reducible refine RC.abs ?_
  | with_reducible refine RC.max2 ?_
  | with_reducible refine RC.min2 ?_
  | ((with_reducible refine' RC.listL ?h ?_); (case h => walk_at "rl"))
  | (with_reducible refine W.lst ?_)
  | (with_reducible refine W.tup ?_)
  | (with_reducible refine W.sl ?_)
  | (with_reducible refine WO.no ?_)
  | (with_reducible refine WO.part ?_)
  | ((with_reducible refine' RS.take ?h ?h2 ?_); (case h => walk_at "rl"); (case h2 => walk_at "ok"))
  | ((with_reducible refine' RS.drop ?h ?h2 ?_); (case h => walk_at "rl"); (case h2 => walk_at "ok"))
  | with_reducible refine RC.isiII ?_
  | with_reducible refine RC.isiIB ?_
  | ((with_reducible refine' RC.isiLL ?h ?_); (case h => walk_at "rx"))
  | ((with_reducible refine' RC.isiTT ?h ?_); (case h => walk_at "rx"))
  | with_reducible refine WT.test ?_
  | with_reducible refine WT.b ?_
  | with_reducible refine WT.not ?_
  | with_reducible refine WT.and ?_
  | with_reducible refine WT.or ?_
  | with_reducible refine W.andV ?_
  | with_reducible refine W.orV ?_
  | with_reducible refine W.notV ?_
  | with_reducible refine W.chain ?_
  | with_reducible refine S.seq ?_
  | ((with_reducible refine Un.nx ?_); (with_reducible refine UU.zero ?_))
  | ((with_reducible refine Un.nx ?_); (with_reducible refine UU.succ ?_))
  | with_reducible refine UU.succ ?_
  | with_reducible refine UU.zero ?_
  | with_reducible refine S.asg ?_
  | with_reducible refine S.ret ?_
  | with_reducible refine S.next ?_
  | (with_reducible refine ⟨_, rfl, ?_⟩)
  | refine And.intro (fun _ => ?_) (fun h => Bool.noConfusion h)
  | refine And.intro (fun h => Bool.noConfusion h) (fun _ => ?_))
local macro_rules | `(tactic| walk_at "w") => `(tactic| (repeat walk_at "w1"))
local macro_rules | `(tactic| walk_at "w0") => `(tactic| (repeat walk_at "v1"))
local macro_rules | `(tactic| walk_at "if") => `(tactic| (refine And.intro (fun hb => ?_) (fun hb => ?_) <;> (try simp only [decide_eq_true_eq, decide_eq_false_iff_not, Bool.not_eq_true', Bool.not_eq_false', Bool.false_eq_true, Bool.true_eq_false, Bool.not_true, Bool.not_false, eq_self, not_true_eq_false, not_false_eq_true, ne_eq] at hb)))
local macro_rules | `(tactic| walk_at "fin") => `(tactic| first
  | exact NR.sub (by assumption) (by walk_at "sub")
  | exact NR.sub (by first | assumption | (apply_assumption)) (by walk_at "sub"))
local macro_rules | `(tactic| walk_at "d") => `(tactic| (try dsimp only [List.set, wipe, List.map]))
local macro_rules | `(tactic| walk_at "lp") => `(tactic| refine Lp.nx ?_)
local macro_rules | `(tactic| walk_at "app") => `(tactic| ((with_reducible refine S.app ?_); (walk_at "w0"); (first | refine ⟨⟨_, by walk_at "rl"⟩, ?_⟩ | refine ⟨_, rfl, ⟨_, by walk_at "rl"⟩, ?_⟩); (walk_at "w0"); (first | refine ⟨_, 0, rfl, ?_, ?_⟩ | refine ⟨_, 1, rfl, ?_, ?_⟩ | refine ⟨_, 2, rfl, ?_, ?_⟩ | refine ⟨_, 3, rfl, ?_, ?_⟩ | refine ⟨_, 4, rfl, ?_, ?_⟩ | refine ⟨_, 5, rfl, ?_, ?_⟩ | refine ⟨_, 6, rfl, ?_, ?_⟩ | refine ⟨_, 7, rfl, ?_, ?_⟩ | refine ⟨_, 8, rfl, ?_, ?_⟩ | refine ⟨_, 9, rfl, ?_, ?_⟩ | refine ⟨_, 10, rfl, ?_, ?_⟩ | refine ⟨_, 11, rfl, ?_, ?_⟩ | refine ⟨_, 12, rfl, ?_, ?_⟩ | refine ⟨_, 13, rfl, ?_, ?_⟩ | refine ⟨_, 14, rfl, ?_, ?_⟩ | refine ⟨_, 15, rfl, ?_, ?_⟩ | refine ⟨_, 16, rfl, ?_, ?_⟩ | refine ⟨_, 17, rfl, ?_, ?_⟩ | refine ⟨_, 18, rfl, ?_, ?_⟩ | refine ⟨_, 19, rfl, ?_, ?_⟩ | refine ⟨_, 20, rfl, ?_, ?_⟩ | refine ⟨_, 21, rfl, ?_, ?_⟩ | refine ⟨_, 22, rfl, ?_, ?_⟩ | refine ⟨_, 23, rfl, ?_, ?_⟩)))
local macro_rules | `(tactic| walk_at "set1") => `(tactic| first | refine ⟨_, _, _, 0, rfl, rfl, rfl, ?_, ?_⟩ | refine ⟨_, _, _, 1, rfl, rfl, rfl, ?_, ?_⟩ | refine ⟨_, _, _, 2, rfl, rfl, rfl, ?_, ?_⟩ | refine ⟨_, _, _, 3, rfl, rfl, rfl, ?_, ?_⟩ | refine ⟨_, _, _, 4, rfl, rfl, rfl, ?_, ?_⟩ | refine ⟨_, _, _, 5, rfl, rfl, rfl, ?_, ?_⟩ | refine ⟨_, _, _, 6, rfl, rfl, rfl, ?_, ?_⟩ | refine ⟨_, _, _, 7, rfl, rfl, rfl, ?_, ?_⟩ | refine ⟨_, _, _, 8, rfl, rfl, rfl, ?_, ?_⟩ | refine ⟨_, _, _, 9, rfl, rfl, rfl, ?_, ?_⟩ | refine ⟨_, _, _, 10, rfl, rfl, rfl, ?_, ?_⟩ | refine ⟨_, _, _, 11, rfl, rfl, rfl, ?_, ?_⟩ | refine ⟨_, _, _, 12, rfl, rfl, rfl, ?_, ?_⟩ | refine ⟨_, _, _, 13, rfl, rfl, rfl, ?_, ?_⟩ | refine ⟨_, _, _, 14, rfl, rfl, rfl, ?_, ?_⟩ | refine ⟨_, _, _, 15, rfl, rfl, rfl, ?_, ?_⟩ | refine ⟨_, _, _, 16, rfl, rfl, rfl, ?_, ?_⟩ | refine ⟨_, _, _, 17, rfl, rfl, rfl, ?_, ?_⟩ | refine ⟨_, _, _, 18, rfl, rfl, rfl, ?_, ?_⟩ | refine ⟨_, _, _, 19, rfl, rfl, rfl, ?_, ?_⟩ | refine ⟨_, _, _, 20, rfl, rfl, rfl, ?_, ?_⟩ | refine ⟨_, _, _, 21, rfl, rfl, rfl, ?_, ?_⟩ | refine ⟨_, _, _, 22, rfl, rfl, rfl, ?_, ?_⟩ | refine ⟨_, _, _, 23, rfl, rfl, rfl, ?_, ?_⟩)
local macro_rules | `(tactic| walk_at "un") => `(tactic| refine Un.nx ?_)
def topS (i : Nat) : Stmt := PySem.Challenge.pw_polyarith_k02_sums.main.body.getD i (.Pass ⟨0, 0, 0, 0⟩)
abbrev s_trimmed : Stmt := topS 1
theorem sc_trimmed : FnScope ["row", "size"] ["row"] (defScope s_trimmed) := ⟨rfl, rfl, rfl, by decide +kernel, rfl, by decide +kernel, by decide +kernel⟩
abbrev s_number_at : Stmt := topS 2
theorem sc_number_at : FnScope ["row", "place"] ["row", "place"] (defScope s_number_at) := ⟨rfl, rfl, rfl, by decide +kernel, rfl, by decide +kernel, by decide +kernel⟩
abbrev s_plus : Stmt := topS 3
theorem sc_plus : FnScope ["ones", "others", "size", "k"] ["ones", "others"] (defScope s_plus) := ⟨rfl, rfl, rfl, by decide +kernel, rfl, by decide +kernel, by decide +kernel⟩
abbrev s_minus : Stmt := topS 4
theorem sc_minus : FnScope ["ones", "others", "size", "k"] ["ones", "others"] (defScope s_minus) := ⟨rfl, rfl, rfl, by decide +kernel, rfl, by decide +kernel, by decide +kernel⟩
abbrev s_scaled : Stmt := topS 5
theorem sc_scaled : FnScope ["row", "many", "number"] ["row", "many"] (defScope s_scaled) := ⟨rfl, rfl, rfl, by decide +kernel, rfl, by decide +kernel, by decide +kernel⟩
abbrev s__law_whole : Stmt := topS 7
theorem sc__law_whole : FnScope ["_law_found"] ["_law_found"] (defScope s__law_whole) := ⟨rfl, rfl, rfl, by decide +kernel, rfl, by decide +kernel, by decide +kernel⟩
abbrev s__law_cell_at : Stmt := topS 8
theorem sc__law_cell_at : FnScope ["_law_script", "_law_k"] ["_law_script", "_law_k"] (defScope s__law_cell_at) := ⟨rfl, rfl, rfl, by decide +kernel, rfl, by decide +kernel, by decide +kernel⟩
abbrev s__law_trim : Stmt := topS 9
theorem sc__law_trim : FnScope ["_law_row", "_law_size"] ["_law_row"] (defScope s__law_trim) := ⟨rfl, rfl, rfl, by decide +kernel, rfl, by decide +kernel, by decide +kernel⟩
abbrev s__law_same : Stmt := topS 10
theorem sc__law_same : FnScope ["_law_found", "_law_due_here", "_law_k"] ["_law_found", "_law_due_here"] (defScope s__law_same) := ⟨rfl, rfl, rfl, by decide +kernel, rfl, by decide +kernel, by decide +kernel⟩
abbrev s__law_number : Stmt := topS 11
theorem sc__law_number : FnScope ["_law_cell"] ["_law_cell"] (defScope s__law_number) := ⟨rfl, rfl, rfl, by decide +kernel, rfl, by decide +kernel, by decide +kernel⟩
abbrev s__law_drawn : Stmt := topS 12
theorem sc__law_drawn : FnScope ["_law_script", "_law_place", "_law_size", "_law_many", "_law_row", "_law_k"] ["_law_script", "_law_place", "_law_size", "_law_many"] (defScope s__law_drawn) := ⟨rfl, rfl, rfl, by decide +kernel, rfl, by decide +kernel, by decide +kernel⟩
abbrev s__law_number_at : Stmt := topS 13
theorem sc__law_number_at : FnScope ["_law_row", "_law_place"] ["_law_row", "_law_place"] (defScope s__law_number_at) := ⟨rfl, rfl, rfl, by decide +kernel, rfl, by decide +kernel, by decide +kernel⟩
abbrev s__law_due : Stmt := topS 14
theorem sc__law_due : FnScope ["_law_ones", "_law_others", "_law_many", "_law_size", "_law_k", "_law_number_here"] ["_law_ones", "_law_others", "_law_many"] (defScope s__law_due) := ⟨rfl, rfl, rfl, by decide +kernel, rfl, by decide +kernel, by decide +kernel⟩
abbrev s__law_told : Stmt := topS 15
theorem sc__law_told : FnScope ["_law_ones", "_law_others", "_law_many"] ["_law_ones", "_law_others", "_law_many"] (defScope s__law_told) := ⟨rfl, rfl, rfl, by decide +kernel, rfl, by decide +kernel, by decide +kernel⟩
abbrev s_law : Stmt := topS 16
theorem sc_law : FnScope ["_law_script", "_law_first", "_law_second", "_law_many", "_law_ones", "_law_others", "_law_number_here", "_law_due_here", "_law_handed", "_law_found", "_law_k", "_law_again"] ["_law_script"] (defScope s_law) := ⟨rfl, rfl, rfl, by decide +kernel, rfl, by decide +kernel, by decide +kernel⟩
structure Txt (K : PySem.W.Frag) (mg : Str → Option Value) where
  a_trimmed : Addr
  d_trimmed : FuncData
  F_trimmed : Fun K "trimmed" "trimmed" s_trimmed a_trimmed d_trimmed
  m_trimmed : mg "trimmed" = some (.ref a_trimmed)
  b_trimmed : Binds K d_trimmed ["row"] []
  a_number_at : Addr
  d_number_at : FuncData
  F_number_at : Fun K "number_at" "number_at" s_number_at a_number_at d_number_at
  m_number_at : mg "number_at" = some (.ref a_number_at)
  b_number_at : Binds K d_number_at ["row", "place"] []
  a_plus : Addr
  d_plus : FuncData
  F_plus : Fun K "plus" "plus" s_plus a_plus d_plus
  m_plus : mg "plus" = some (.ref a_plus)
  b_plus : Binds K d_plus ["ones", "others"] []
  a_minus : Addr
  d_minus : FuncData
  F_minus : Fun K "minus" "minus" s_minus a_minus d_minus
  m_minus : mg "minus" = some (.ref a_minus)
  b_minus : Binds K d_minus ["ones", "others"] []
  a_scaled : Addr
  d_scaled : FuncData
  F_scaled : Fun K "scaled" "scaled" s_scaled a_scaled d_scaled
  m_scaled : mg "scaled" = some (.ref a_scaled)
  b_scaled : Binds K d_scaled ["row", "many"] []
  a__law_whole : Addr
  d__law_whole : FuncData
  F__law_whole : Fun K "_law_whole" "_law_whole" s__law_whole a__law_whole d__law_whole
  m__law_whole : mg "_law_whole" = some (.ref a__law_whole)
  b__law_whole : Binds K d__law_whole ["_law_found"] []
  a__law_cell_at : Addr
  d__law_cell_at : FuncData
  F__law_cell_at : Fun K "_law_cell_at" "_law_cell_at" s__law_cell_at a__law_cell_at d__law_cell_at
  m__law_cell_at : mg "_law_cell_at" = some (.ref a__law_cell_at)
  b__law_cell_at : Binds K d__law_cell_at ["_law_script", "_law_k"] []
  a__law_trim : Addr
  d__law_trim : FuncData
  F__law_trim : Fun K "_law_trim" "_law_trim" s__law_trim a__law_trim d__law_trim
  m__law_trim : mg "_law_trim" = some (.ref a__law_trim)
  b__law_trim : Binds K d__law_trim ["_law_row"] []
  a__law_same : Addr
  d__law_same : FuncData
  F__law_same : Fun K "_law_same" "_law_same" s__law_same a__law_same d__law_same
  m__law_same : mg "_law_same" = some (.ref a__law_same)
  b__law_same : Binds K d__law_same ["_law_found", "_law_due_here"] []
  a__law_number : Addr
  d__law_number : FuncData
  F__law_number : Fun K "_law_number" "_law_number" s__law_number a__law_number d__law_number
  m__law_number : mg "_law_number" = some (.ref a__law_number)
  b__law_number : Binds K d__law_number ["_law_cell"] []
  a__law_drawn : Addr
  d__law_drawn : FuncData
  F__law_drawn : Fun K "_law_drawn" "_law_drawn" s__law_drawn a__law_drawn d__law_drawn
  m__law_drawn : mg "_law_drawn" = some (.ref a__law_drawn)
  b__law_drawn : Binds K d__law_drawn ["_law_script", "_law_place", "_law_size", "_law_many"] []
  a__law_number_at : Addr
  d__law_number_at : FuncData
  F__law_number_at : Fun K "_law_number_at" "_law_number_at" s__law_number_at a__law_number_at d__law_number_at
  m__law_number_at : mg "_law_number_at" = some (.ref a__law_number_at)
  b__law_number_at : Binds K d__law_number_at ["_law_row", "_law_place"] []
  a__law_due : Addr
  d__law_due : FuncData
  F__law_due : Fun K "_law_due" "_law_due" s__law_due a__law_due d__law_due
  m__law_due : mg "_law_due" = some (.ref a__law_due)
  b__law_due : Binds K d__law_due ["_law_ones", "_law_others", "_law_many"] []
  a__law_told : Addr
  d__law_told : FuncData
  F__law_told : Fun K "_law_told" "_law_told" s__law_told a__law_told d__law_told
  m__law_told : mg "_law_told" = some (.ref a__law_told)
  b__law_told : Binds K d__law_told ["_law_ones", "_law_others", "_law_many"] []
  a_law : Addr
  d_law : FuncData
  F_law : Fun K "law" "law" s_law a_law d_law
  m_law : mg "law" = some (.ref a_law)
  b_law : Binds K d_law ["_law_script"] []
  z_bool : mg "bool" = none
  z_int : mg "int" = none
  z_isinstance : mg "isinstance" = none
  z_len : mg "len" = none
  z_list : mg "list" = none
  z_max : mg "max" = none
  z_range : mg "range" = none

section
variable {P : Program} {w : World} {K : PySem.W.Frag} {mg : Str → Option Value} {base : Heap}
def sp_trimmed : Sp := fun vs H Q _ => ∃ (a : Addr) (xs : List Int), vs = [.ref a] ∧ H a = some (.lst (zV xs)) ∧ xs.length ≤ 100000 ∧ ∀ p, NR Q (.ref p) H [(p, .lst (zV (trim xs)))]
theorem WC_trimmed {H0 : Hp} {fs : Fs} {Φ : CV} {a : Addr} {xs : List Int} (h : Rx H0 fs a (.lst (zV xs))) (hl : xs.length ≤ 100000) (q : ∀ p, Φ (.ref p) ((p, .lst (zV (trim xs))) :: fs)) : WC sp_trimmed [.ref a] H0 fs Φ :=
  fun H k Q E c => ⟨a, xs, rfl, h H k, hl, fun p H' k' => c _ _ _ (k.app k') (q p)⟩
theorem ok_trimmed (T : Txt K mg) : FnOk P w K mg base CX0 1 T.a_trimmed T.d_trimmed ["row"] sp_trimmed := by
  refine T.F_trimmed.ok sc_trimmed (fun vs H Q E h => ?_) (fun cdv A outer s H vs Q E hr h => ?_)
  · obtain ⟨a, xs, rfl, _⟩ := h; rfl
  · obtain ⟨a, xs, rfl, hA, hl, q⟩ := h
    refine ⟨_, (pss_cons (ps_set (i := 1) sc_trimmed.nd rfl (Or.inl rfl) (pe_callB cLen (by rfl) T.z_len PySem.boot_len (pa_cons (pv 0) pa_nil)))
      (pss_cons (ps_while PassesOwn.never (PW.pt (pw_and (pt_cmpR op_gt (pv 1) pe_int (nomark _)) (pw_and1 (pt_cmpR op_eq (pe_ix ix_list (pv 0) (pe_op op_sub (pv 1) pe_int) (fun _ _ => rfl)) pe_int (nomark _))))) (pss_one (ps_set (i := 1) sc_trimmed.nd rfl (Or.inl rfl) (pe_op op_sub (pv 1) pe_int))))
      (pss_one (ps_ret (pe_slice sl_list (pv 0) po_none (po_some (pv 1))))))), ?_⟩
    refine N.go (σ := [some (.ref a), none]) ?_
    walk_at "w"
    refine S.while_ (fun m σ f => σ = [some (.ref a), some (.int (m : Int))] ∧ f = [] ∧ m ≤ xs.length ∧ trim xs = trim (xs.take m)) xs.length ⟨rfl, rfl, Nat.le_refl _, by rw [List.take_length]⟩ ?_
    rintro m σ f ⟨rfl, rfl, hm, ht⟩
    walk_at "w"
    walk_at "if"
    · walk_at "w"
      walk_at "if"
      · -- one nought less
        walk_at "w"
        rename_i h1 h2
        have em : ((m : Int) - 1) = ((m - 1 : Nat) : Int) := by omega
        rw [em]
        refine Wl.nx (m' := m - 1) (by omega) ⟨rfl, rfl, by omega, ?_⟩
        rw [ht]
        have e2 : m = (m - 1) + 1 := by omega
        rw [em, gat_nat] at h2
        rw [e2, take_succ_getD (by omega : m - 1 < xs.length), h2, trim_zero]
        rfl
      · walk_at "w"
        rename_i h1 h2
        intro l
        have em : ((m : Int) - 1) = ((m - 1 : Nat) : Int) := by omega
        have e2 : m = (m - 1) + 1 := by omega
        rw [em, gat_nat] at h2
        have e3 : trim xs = xs.take m := by
          rw [ht, e2, take_succ_getD (by omega : m - 1 < xs.length), trim_last _ h2]
        rw [e3] at q
        have e4 : ((m : Int)).toNat = m := by simp
        rw [e4]
        exact NR.sub (q l) (by walk_at "sub")
    · walk_at "w"
      rename_i h1
      intro l
      have e0 : m = 0 := by omega
      subst e0
      have e3 : trim xs = [] := by rw [ht]; rfl
      rw [e3] at q
      exact NR.sub (q l) (by walk_at "sub")

end

section
variable {P : Program} {w : World} {K : PySem.W.Frag} {mg : Str → Option Value} {base : Heap}
def sp_number_at (K : PySem.W.Frag) : Sp := fun vs H Q _ => ∃ (a : Addr) (ns : List Int) (i : Int), vs = [.ref a, .int i] ∧ SqL K H a (zV ns) ∧ 0 ≤ i ∧ NR Q (.int (gat ns i)) H []
theorem WC_number_at {K : PySem.W.Frag} {H0 : Hp} {fs : Fs} {Φ : CV} {a : Addr} {ns : List Int} {i : Int} (h : Rl K H0 fs a (zV ns)) (hi : 0 ≤ i) (q : Φ (.int (gat ns i)) fs) : WC (sp_number_at K) [.ref a, .int i] H0 fs Φ :=
  fun H k Q E c => ⟨a, ns, i, rfl, h H k, hi, fun H' k' => c _ _ _ (k.app k') q⟩
theorem ok_number_at (T : Txt K mg) : FnOk P w K mg base CX0 1 T.a_number_at T.d_number_at ["row", "place"] (sp_number_at K) := by
  refine T.F_number_at.ok sc_number_at (fun vs H Q E h => ?_) (fun cdv A outer s H vs Q E hr h => ?_)
  · obtain ⟨a, ns, i, rfl, _⟩ := h; rfl
  · obtain ⟨a, ns, i, rfl, hS, h0, q⟩ := h
    refine ⟨_, (pss_cons (ps_if (pt_cmpR op_lt (pv 1) (pe_callB cLen (by rfl) T.z_len PySem.boot_len (pa_cons (pv 0) pa_nil)) (nomark _)) (pss_one (ps_ret (pe_ix ix_list (pv 0) (pv 1) (fun _ _ => rfl)))) pss_nil)
      (pss_one (ps_ret pe_int))), ?_⟩
    refine N.go (σ := [some (.ref a), some (.int i)]) ?_
    walk_at "w"
    walk_at "if"
    · walk_at "w"
      walk_at "fin"
    · walk_at "w"
      have e : gat ns i = 0 := by
        unfold gat
        rw [List.getD_eq_getElem?_getD, List.getElem?_eq_none (by omega)]; rfl
      rw [e] at q
      walk_at "fin"

end

section
variable {P : Program} {w : World} {K : PySem.W.Frag} {mg : Str → Option Value} {base : Heap}
def sp_plus : Sp := fun vs H Q _ => ∃ (a b : Addr) (xs ys : List Int), vs = [.ref a, .ref b] ∧ H a = some (.lst (zV xs)) ∧ H b = some (.lst (zV ys)) ∧ (xs.length ≤ 90000 ∧ ys.length ≤ 90000) ∧ ∀ p, NR Q (.ref p) H [(p, .lst (zV (plus xs ys)))]
theorem WC_plus {H0 : Hp} {fs : Fs} {Φ : CV} {a b : Addr} {xs ys : List Int} (h : Rx H0 fs a (.lst (zV xs))) (h2 : Rx H0 fs b (.lst (zV ys))) (hl : xs.length ≤ 90000 ∧ ys.length ≤ 90000) (q : ∀ p, Φ (.ref p) ((p, .lst (zV (plus xs ys))) :: fs)) : WC sp_plus [.ref a, .ref b] H0 fs Φ :=
  fun H k Q E c => ⟨a, b, xs, ys, rfl, h H k, h2 H k, hl, fun p H' k' => c _ _ _ (k.app k') (q p)⟩
theorem ok_plus (T : Txt K mg) : FnOk P w K mg base CX0 2 T.a_plus T.d_plus ["ones", "others"] sp_plus := by
  refine T.F_plus.ok sc_plus (fun vs H Q E h => ?_) (fun cdv A outer s H vs Q E hr h => ?_)
  · obtain ⟨a, b, xs, ys, rfl, _⟩ := h; rfl
  · obtain ⟨a, b, xs, ys, rfl, hA, hB, hl, q⟩ := h
    refine ⟨_, (pss_cons (ps_set (i := 2) sc_plus.nd rfl (Or.inl rfl) (pe_callB (cMax2 rfl) (by rfl) T.z_max (by decide +kernel) (pa_cons (pe_callB cLen (by rfl) T.z_len PySem.boot_len (pa_cons (pv 0) pa_nil)) (pa_cons (pe_callB cLen (by rfl) T.z_len PySem.boot_len (pa_cons (pv 1) pa_nil)) pa_nil))))
      (pss_one (ps_ret (pe_call (ok_trimmed T) (hr.mono (by decide)) (by rfl) T.m_trimmed T.F_trimmed.kp T.b_trimmed .nil pass0 (pa_cons (pe_lc (own := [("k", 3)]) (g := gName 3) (tt := tYes) rfl sc_plus.nd (pi_range1 rfl T.z_range (pa_cons (pv 2) pa_nil)) (blkOk_by (own := [("k", 3)]) (N := ["ones", "others", "size", "k"]) (sc := defScope s_plus) (by decide +kernel)) (fun _ _ _ _ _ => pg_name (i := 3) sc_plus.nd rfl (Or.inl rfl)) (fun _ _ _ _ _ => pts_nil) (fun _ _ _ _ _ => (pe_op op_add (pe_call (ok_number_at T) (hr.mono (by decide)) (by rfl) T.m_number_at T.F_number_at.kp T.b_number_at .nil pass0 (pa_cons (pv 0) (pa_cons (pv 3) pa_nil))) (pe_call (ok_number_at T) (hr.mono (by decide)) (by rfl) T.m_number_at T.F_number_at.kp T.b_number_at .nil pass0 (pa_cons (pv 1) (pa_cons (pv 3) pa_nil)))))) pa_nil))))), ?_⟩
    refine N.go (σ := [some (.ref a), some (.ref b), none, none]) ?_
    walk_at "w"
    walk_at "d"
    walk_at "w"
    refine W.lcRz (n := max (xs.length : Int) (ys.length : Int)) (fun k => gat xs (k : Int) + gat ys (k : Int)) ?_
    walk_at "w"
    refine ⟨rfl, by omega, by omega, fun _ => rfl, fun i D acc hi => ?_, fun D => ?_⟩
    · walk_at "d"
      walk_at "w"
      refine WC_number_at (ns := xs) (by walk_at "rl") (by omega) ?_
      walk_at "w"
      refine WC_number_at (ns := ys) (by walk_at "rl") (by omega) ?_
      walk_at "w"
      exact ⟨rfl, by walk_at "sub"⟩
    · walk_at "w"
      refine WC_trimmed (by walk_at "rx") (by simp; omega) fun p => ?_
      exact NR.sub (q p) (by walk_at "sub")

end

section
variable {P : Program} {w : World} {K : PySem.W.Frag} {mg : Str → Option Value} {base : Heap}
def sp_minus : Sp := fun vs H Q _ => ∃ (a b : Addr) (xs ys : List Int), vs = [.ref a, .ref b] ∧ H a = some (.lst (zV xs)) ∧ H b = some (.lst (zV ys)) ∧ (xs.length ≤ 90000 ∧ ys.length ≤ 90000) ∧ ∀ p, NR Q (.ref p) H [(p, .lst (zV (minus xs ys)))]
theorem WC_minus {H0 : Hp} {fs : Fs} {Φ : CV} {a b : Addr} {xs ys : List Int} (h : Rx H0 fs a (.lst (zV xs))) (h2 : Rx H0 fs b (.lst (zV ys))) (hl : xs.length ≤ 90000 ∧ ys.length ≤ 90000) (q : ∀ p, Φ (.ref p) ((p, .lst (zV (minus xs ys))) :: fs)) : WC sp_minus [.ref a, .ref b] H0 fs Φ :=
  fun H k Q E c => ⟨a, b, xs, ys, rfl, h H k, h2 H k, hl, fun p H' k' => c _ _ _ (k.app k') (q p)⟩
theorem ok_minus (T : Txt K mg) : FnOk P w K mg base CX0 2 T.a_minus T.d_minus ["ones", "others"] sp_minus := by
  refine T.F_minus.ok sc_minus (fun vs H Q E h => ?_) (fun cdv A outer s H vs Q E hr h => ?_)
  · obtain ⟨a, b, xs, ys, rfl, _⟩ := h; rfl
  · obtain ⟨a, b, xs, ys, rfl, hA, hB, hl, q⟩ := h
    refine ⟨_, (pss_cons (ps_set (i := 2) sc_minus.nd rfl (Or.inl rfl) (pe_callB (cMax2 rfl) (by rfl) T.z_max (by decide +kernel) (pa_cons (pe_callB cLen (by rfl) T.z_len PySem.boot_len (pa_cons (pv 0) pa_nil)) (pa_cons (pe_callB cLen (by rfl) T.z_len PySem.boot_len (pa_cons (pv 1) pa_nil)) pa_nil))))
      (pss_one (ps_ret (pe_call (ok_trimmed T) (hr.mono (by decide)) (by rfl) T.m_trimmed T.F_trimmed.kp T.b_trimmed .nil pass0 (pa_cons (pe_lc (own := [("k", 3)]) (g := gName 3) (tt := tYes) rfl sc_minus.nd (pi_range1 rfl T.z_range (pa_cons (pv 2) pa_nil)) (blkOk_by (own := [("k", 3)]) (N := ["ones", "others", "size", "k"]) (sc := defScope s_minus) (by decide +kernel)) (fun _ _ _ _ _ => pg_name (i := 3) sc_minus.nd rfl (Or.inl rfl)) (fun _ _ _ _ _ => pts_nil) (fun _ _ _ _ _ => (pe_op op_sub (pe_call (ok_number_at T) (hr.mono (by decide)) (by rfl) T.m_number_at T.F_number_at.kp T.b_number_at .nil pass0 (pa_cons (pv 0) (pa_cons (pv 3) pa_nil))) (pe_call (ok_number_at T) (hr.mono (by decide)) (by rfl) T.m_number_at T.F_number_at.kp T.b_number_at .nil pass0 (pa_cons (pv 1) (pa_cons (pv 3) pa_nil)))))) pa_nil))))), ?_⟩
    refine N.go (σ := [some (.ref a), some (.ref b), none, none]) ?_
    walk_at "w"
    walk_at "d"
    walk_at "w"
    refine W.lcRz (n := max (xs.length : Int) (ys.length : Int)) (fun k => gat xs (k : Int) - gat ys (k : Int)) ?_
    walk_at "w"
    refine ⟨rfl, by omega, by omega, fun _ => rfl, fun i D acc hi => ?_, fun D => ?_⟩
    · walk_at "d"
      walk_at "w"
      refine WC_number_at (ns := xs) (by walk_at "rl") (by omega) ?_
      walk_at "w"
      refine WC_number_at (ns := ys) (by walk_at "rl") (by omega) ?_
      walk_at "w"
      exact ⟨rfl, by walk_at "sub"⟩
    · walk_at "w"
      refine WC_trimmed (by walk_at "rx") (by simp; omega) fun p => ?_
      exact NR.sub (q p) (by walk_at "sub")

end

section
variable {P : Program} {w : World} {K : PySem.W.Frag} {mg : Str → Option Value} {base : Heap}
def sp_scaled : Sp := fun vs H Q _ => ∃ (a : Addr) (xs : List Int) (m : Int) (b c : Nat), vs = [.ref a, .int m] ∧ H a = some (.lst (zV xs)) ∧ xs.length ≤ 90000 ∧ BdL b xs ∧ Bd c m ∧ b + c ≤ 134217728 ∧ ∀ p, NR Q (.ref p) H [(p, .lst (zV (scaled xs m)))]
theorem WC_scaled {H0 : Hp} {fs : Fs} {Φ : CV} {a : Addr} {xs : List Int} {m : Int} (b c : Nat) (h : Rx H0 fs a (.lst (zV xs))) (hl : xs.length ≤ 90000) (hb : BdL b xs) (hc : Bd c m) (hbc : b + c ≤ 134217728) (q : ∀ p, Φ (.ref p) ((p, .lst (zV (scaled xs m))) :: fs)) : WC sp_scaled [.ref a, .int m] H0 fs Φ :=
  fun H k Q E cc => ⟨a, xs, m, b, c, rfl, h H k, hl, hb, hc, hbc, fun p H' k' => cc _ _ _ (k.app k') (q p)⟩
theorem ok_scaled (T : Txt K mg) : FnOk P w K mg base CX0 2 T.a_scaled T.d_scaled ["row", "many"] sp_scaled := by
  refine T.F_scaled.ok sc_scaled (fun vs H Q E h => ?_) (fun cdv A outer s H vs Q E hr h => ?_)
  · obtain ⟨a, xs, m, b, c, rfl, _⟩ := h; rfl
  · obtain ⟨a, xs, m, b, c, rfl, hA, hl, hb, hc, hbc, q⟩ := h
    refine ⟨_, (pss_one (ps_ret (pe_call (ok_trimmed T) (hr.mono (by decide)) (by rfl) T.m_trimmed T.F_trimmed.kp T.b_trimmed .nil pass0 (pa_cons (pe_lc (own := [("number", 2)]) (g := gName 2) (tt := tYes) rfl sc_scaled.nd (pi_list (pv 0)) (blkOk_by (own := [("number", 2)]) (N := ["row", "many", "number"]) (sc := defScope s_scaled) (by decide +kernel)) (fun _ _ _ _ _ => pg_name (i := 2) sc_scaled.nd rfl (Or.inl rfl)) (fun _ _ _ _ _ => pts_nil) (fun _ _ _ _ _ => (pe_op op_mulG (pv 1) (pv 2)))) pa_nil)))), ?_⟩
    refine N.go (σ := [some (.ref a), some (.int m), none]) ?_
    walk_at "w"
    refine W.lcZz (ns := xs) (fun x => m * x) ?_
    walk_at "w"
    refine ⟨by walk_at "rl", by omega, fun _ => rfl, fun x D acc hx => ?_, fun D => ?_⟩
    · walk_at "d"
      have hok : IntMulOk m x := mulB hc (hb x hx) (by omega)
      walk_at "w"
      exact ⟨rfl, by walk_at "sub"⟩
    · walk_at "w"
      refine WC_trimmed (by walk_at "rx") (by rw [List.length_map]; omega) fun p => ?_
      exact NR.sub (q p) (by walk_at "sub")

end

section
variable {P : Program} {w : World} {K : PySem.W.Frag} {mg : Str → Option Value} {base : Heap}
/-- on ints -/
def sp__law_whole : Sp := fun vs H Q _ => ∃ (i : Int), vs = [.int i] ∧ NR Q (.bl true) H []
theorem WC__law_whole {H0 : Hp} {fs : Fs} {Φ : CV} {i : Int} (q : Φ (.bl true) fs) : WC sp__law_whole [.int i] H0 fs Φ := fun H k Q E c => ⟨i, rfl, fun H' k' => c _ _ _ (k.app k') q⟩
theorem ok__law_whole (T : Txt K mg) : FnOk P w K mg base CX0 1 T.a__law_whole T.d__law_whole ["_law_found"] sp__law_whole := by
  refine T.F__law_whole.ok sc__law_whole (fun vs H Q E h => ?_) (fun cdv A outer s H vs Q E hr h => ?_)
  · obtain ⟨i, rfl, _⟩ := h; rfl
  · obtain ⟨i, rfl, q⟩ := h
    refine ⟨_, (pss_one (ps_ret (pe_and (pe_callB call_isi (by rfl) T.z_isinstance (by decide +kernel) (pa_cons (pv 0) (pa_cons (pe_bltn (v := .ty "int") (by rfl) T.z_int (by decide +kernel) rfl) pa_nil))) (pe_one (pe_not (pe_callB call_isi (by rfl) T.z_isinstance (by decide +kernel) (pa_cons (pv 0) (pa_cons (pe_bltn (v := .ty "bool") (by rfl) T.z_bool (by decide +kernel) rfl) pa_nil)))))))), ?_⟩
    refine N.go (σ := [some (.int i)]) ?_
    walk_at "w"
    walk_at "fin"

end

section
variable {P : Program} {w : World} {K : PySem.W.Frag} {mg : Str → Option Value} {base : Heap}
def sp__law_cell_at (K : PySem.W.Frag) : Sp := fun vs H Q _ => ∃ (a : Addr) (ns : List Int) (i : Int), vs = [.ref a, .int i] ∧ SqL K H a (zV ns) ∧ 0 ≤ i ∧ NR Q (.int (gat ns i)) H []
theorem WC__law_cell_at {K : PySem.W.Frag} {H0 : Hp} {fs : Fs} {Φ : CV} {a : Addr} {ns : List Int} {i : Int} (h : Rl K H0 fs a (zV ns)) (hi : 0 ≤ i) (q : Φ (.int (gat ns i)) fs) : WC (sp__law_cell_at K) [.ref a, .int i] H0 fs Φ :=
  fun H k Q E c => ⟨a, ns, i, rfl, h H k, hi, fun H' k' => c _ _ _ (k.app k') q⟩
theorem ok__law_cell_at (T : Txt K mg) : FnOk P w K mg base CX0 1 T.a__law_cell_at T.d__law_cell_at ["_law_script", "_law_k"] (sp__law_cell_at K) := by
  refine T.F__law_cell_at.ok sc__law_cell_at (fun vs H Q E h => ?_) (fun cdv A outer s H vs Q E hr h => ?_)
  · obtain ⟨a, ns, i, rfl, _⟩ := h; rfl
  · obtain ⟨a, ns, i, rfl, hS, h0, q⟩ := h
    refine ⟨_, (pss_cons (ps_if (pt_cmpR op_lt (pv 1) (pe_callB cLen (by rfl) T.z_len PySem.boot_len (pa_cons (pv 0) pa_nil)) (nomark _)) (pss_one (ps_ret (pe_ix ix_list (pv 0) (pv 1) (fun _ _ => rfl)))) pss_nil)
      (pss_one (ps_ret pe_int))), ?_⟩
    refine N.go (σ := [some (.ref a), some (.int i)]) ?_
    walk_at "w"
    walk_at "if"
    · walk_at "w"
      walk_at "fin"
    · walk_at "w"
      have e : gat ns i = 0 := by
        unfold gat
        rw [List.getD_eq_getElem?_getD, List.getElem?_eq_none (by omega)]; rfl
      rw [e] at q
      walk_at "fin"

end

section
variable {P : Program} {w : World} {K : PySem.W.Frag} {mg : Str → Option Value} {base : Heap}
def sp__law_trim : Sp := fun vs H Q _ => ∃ (a : Addr) (xs : List Int), vs = [.ref a] ∧ H a = some (.lst (zV xs)) ∧ xs.length ≤ 100000 ∧ ∀ p, NR Q (.ref p) H [(p, .lst (zV (trim xs)))]
theorem WC__law_trim {H0 : Hp} {fs : Fs} {Φ : CV} {a : Addr} {xs : List Int} (h : Rx H0 fs a (.lst (zV xs))) (hl : xs.length ≤ 100000) (q : ∀ p, Φ (.ref p) ((p, .lst (zV (trim xs))) :: fs)) : WC sp__law_trim [.ref a] H0 fs Φ :=
  fun H k Q E c => ⟨a, xs, rfl, h H k, hl, fun p H' k' => c _ _ _ (k.app k') (q p)⟩
theorem ok__law_trim (T : Txt K mg) : FnOk P w K mg base CX0 1 T.a__law_trim T.d__law_trim ["_law_row"] sp__law_trim := by
  refine T.F__law_trim.ok sc__law_trim (fun vs H Q E h => ?_) (fun cdv A outer s H vs Q E hr h => ?_)
  · obtain ⟨a, xs, rfl, _⟩ := h; rfl
  · obtain ⟨a, xs, rfl, hA, hl, q⟩ := h
    refine ⟨_, (pss_cons (ps_set (i := 1) sc__law_trim.nd rfl (Or.inl rfl) (pe_callB cLen (by rfl) T.z_len PySem.boot_len (pa_cons (pv 0) pa_nil)))
      (pss_cons (ps_while PassesOwn.never (PW.pt (pw_and (pt_cmpR op_gt (pv 1) pe_int (nomark _)) (pw_and1 (pt_cmpR op_eq (pe_ix ix_list (pv 0) (pe_op op_sub (pv 1) pe_int) (fun _ _ => rfl)) pe_int (nomark _))))) (pss_one (ps_set (i := 1) sc__law_trim.nd rfl (Or.inl rfl) (pe_op op_sub (pv 1) pe_int))))
      (pss_one (ps_ret (pe_slice sl_list (pv 0) po_none (po_some (pv 1))))))), ?_⟩
    refine N.go (σ := [some (.ref a), none]) ?_
    walk_at "w"
    refine S.while_ (fun m σ f => σ = [some (.ref a), some (.int (m : Int))] ∧ f = [] ∧ m ≤ xs.length ∧ trim xs = trim (xs.take m)) xs.length ⟨rfl, rfl, Nat.le_refl _, by rw [List.take_length]⟩ ?_
    rintro m σ f ⟨rfl, rfl, hm, ht⟩
    walk_at "w"
    walk_at "if"
    · walk_at "w"
      walk_at "if"
      · -- one nought less
        walk_at "w"
        rename_i h1 h2
        have em : ((m : Int) - 1) = ((m - 1 : Nat) : Int) := by omega
        rw [em]
        refine Wl.nx (m' := m - 1) (by omega) ⟨rfl, rfl, by omega, ?_⟩
        rw [ht]
        have e2 : m = (m - 1) + 1 := by omega
        rw [em, gat_nat] at h2
        rw [e2, take_succ_getD (by omega : m - 1 < xs.length), h2, trim_zero]
        rfl
      · walk_at "w"
        rename_i h1 h2
        intro l
        have em : ((m : Int) - 1) = ((m - 1 : Nat) : Int) := by omega
        have e2 : m = (m - 1) + 1 := by omega
        rw [em, gat_nat] at h2
        have e3 : trim xs = xs.take m := by
          rw [ht, e2, take_succ_getD (by omega : m - 1 < xs.length), trim_last _ h2]
        rw [e3] at q
        have e4 : ((m : Int)).toNat = m := by simp
        rw [e4]
        exact NR.sub (q l) (by walk_at "sub")
    · walk_at "w"
      rename_i h1
      intro l
      have e0 : m = 0 := by omega
      subst e0
      have e3 : trim xs = [] := by rw [ht]; rfl
      rw [e3] at q
      exact NR.sub (q l) (by walk_at "sub")

end

section
variable {P : Program} {w : World} {K : PySem.W.Frag} {mg : Str → Option Value} {base : Heap}
/-- the same numbers -/
def sp__law_same : Sp := fun vs H Q _ => ∃ (a b : Addr) (xs : List Int), vs = [.ref a, .ref b] ∧ H a = some (.lst (zV xs)) ∧ H b = some (.lst (zV xs)) ∧ xs.length ≤ 100000 ∧ NR Q (.bl true) H []
theorem WC__law_same {H0 : Hp} {fs : Fs} {Φ : CV} {a b : Addr} {xs : List Int} (h : Rx H0 fs a (.lst (zV xs))) (h2 : Rx H0 fs b (.lst (zV xs))) (hl : xs.length ≤ 100000) (q : Φ (.bl true) fs) : WC sp__law_same [.ref a, .ref b] H0 fs Φ :=
  fun H k Q E c => ⟨a, b, xs, rfl, h H k, h2 H k, hl, fun H' k' => c _ _ _ (k.app k') q⟩
theorem ok__law_same (T : Txt K mg) : FnOk P w K mg base CX0 2 T.a__law_same T.d__law_same ["_law_found", "_law_due_here"] sp__law_same := by
  refine T.F__law_same.ok sc__law_same (fun vs H Q E h => ?_) (fun cdv A outer s H vs Q E hr h => ?_)
  · obtain ⟨a, b, xs, rfl, _⟩ := h; rfl
  · obtain ⟨a, b, xs, rfl, hA, hB, hl, q⟩ := h
    refine ⟨_, (pss_cons (ps_if (PW.pt (pw_or (pt_not (pt_val (pe_callB call_isi (by rfl) T.z_isinstance (by decide +kernel) (pa_cons (pv 0) (pa_cons (pe_bltn (v := .ty "list") (by rfl) T.z_list (by decide +kernel) rfl) pa_nil))))) (pw_or1 (pt_cmpR op_ne (pe_callB cLen (by rfl) T.z_len PySem.boot_len (pa_cons (pv 0) pa_nil)) (pe_callB cLen (by rfl) T.z_len PySem.boot_len (pa_cons (pv 1) pa_nil)) (nomark _))))) (pss_one (ps_ret pe_bl)) pss_nil)
      (pss_cons (ps_for PassesOwn.never rfl (pi_range1 rfl T.z_range (pa_cons (pe_callB cLen (by rfl) T.z_len PySem.boot_len (pa_cons (pv 1) pa_nil)) pa_nil)) (pg_name (i := 2) sc__law_same.nd rfl (Or.inl rfl)) (pss_one (ps_if (PW.pt (pw_or (pt_not (pt_val (pe_call (ok__law_whole T) (hr.mono (by decide)) (by rfl) T.m__law_whole T.F__law_whole.kp T.b__law_whole .nil pass0 (pa_cons (pe_ix ix_list (pv 0) (pv 2) (fun _ _ => rfl)) pa_nil)))) (pw_or1 (pt_cmpR op_ne (pe_ix ix_list (pv 0) (pv 2) (fun _ _ => rfl)) (pe_ix ix_list (pv 1) (pv 2) (fun _ _ => rfl)) (nomark _))))) (pss_one (ps_ret pe_bl)) pss_nil)))
      (pss_one (ps_ret pe_bl)))), ?_⟩
    refine N.go (σ := [some (.ref a), some (.ref b), none]) ?_
    walk_at "w"
    walk_at "if"
    walk_at "w"
    refine S.forR (n := (xs.length : Int)) (fun i σ f => (∃ y, σ = [some (.ref a), some (.ref b), y]) ∧ f = []) ?_ ?_ ?_
    · walk_at "w"
      exact ⟨rfl, by omega, by omega, ⟨_, rfl⟩, rfl⟩
    · rintro i σ f hi ⟨⟨y, rfl⟩, rfl⟩
      walk_at "d"
      walk_at "w"
      refine WC__law_whole ?_
      walk_at "w"
      walk_at "if"
      walk_at "w"
      walk_at "lp"
      exact ⟨⟨_, rfl⟩, rfl⟩
    · rintro σ f ⟨⟨y, rfl⟩, rfl⟩
      walk_at "w"
      walk_at "fin"

end

section
variable {P : Program} {w : World} {K : PySem.W.Frag} {mg : Str → Option Value} {base : Heap}
/-- a number drawn from a cell -/
def num__law_number (c : Int) : Int := if c % 7 = 0 then 0 else if c % 7 = 1 then (1 - c / 7 % 2 * 2) * (c / 14 % 10 ^ 40) else c / 7 % 19 - 9
theorem num__law_number_bd (c : Int) : Bd 140 (num__law_number c) := by
  unfold num__law_number Bd
  have h1 : 0 ≤ c / 14 % 10 ^ 40 := Int.emod_nonneg _ (by decide)
  have h2 : c / 14 % 10 ^ 40 < 10 ^ 40 := Int.emod_lt_of_pos _ (by decide)
  have h3 : c / 7 % 2 = 0 ∨ c / 7 % 2 = 1 := by omega
  have e : (10 : Int) ^ 40 = 10000000000000000000000000000000000000000 := by decide
  have e2 : (2 : Nat) ^ 140 = 1393796574908163946345982392040522594123776 := by decide
  rw [e2]
  rw [e] at h1 h2 ⊢
  split
  · decide
  · split
    · rcases h3 with h3 | h3 <;> rw [h3] <;> omega
    · omega
def sp__law_number : Sp := fun vs H Q _ => ∃ (c : Int), vs = [.int c] ∧ NR Q (.int (num__law_number c)) H []
theorem WC__law_number {H0 : Hp} {fs : Fs} {Φ : CV} {c : Int} (q : Φ (.int (num__law_number c)) fs) : WC sp__law_number [.int c] H0 fs Φ := fun H k Q E cc => ⟨c, rfl, fun H' k' => cc _ _ _ (k.app k') q⟩
theorem ok__law_number (T : Txt K mg) : FnOk P w K mg base CX0 1 T.a__law_number T.d__law_number ["_law_cell"] sp__law_number := by
  refine T.F__law_number.ok sc__law_number (fun vs H Q E h => ?_) (fun cdv A outer s H vs Q E hr h => ?_)
  · obtain ⟨c, rfl, _⟩ := h; rfl
  · obtain ⟨c, rfl, q⟩ := h
    refine ⟨_, (pss_cons (ps_if (pt_cmpR op_eq (pe_op op_mod (pv 0) pe_int) pe_int (nomark _)) (pss_one (ps_ret pe_int)) pss_nil)
      (pss_cons (ps_if (pt_cmpR op_eq (pe_op op_mod (pv 0) pe_int) pe_int (nomark _)) (pss_one (ps_ret (pe_op op_mulG (pe_op op_sub pe_int (pe_op op_mulG (pe_op op_mod (pe_op op_fdiv (pv 0) pe_int) pe_int) pe_int)) (pe_op op_mod (pe_op op_fdiv (pv 0) pe_int) (pe_op op_pow pe_int pe_int))))) pss_nil)
      (pss_one (ps_ret (pe_op op_sub (pe_op op_mod (pe_op op_fdiv (pv 0) pe_int) pe_int) pe_int))))), ?_⟩
    refine N.go (σ := [some (.int c)]) ?_
    unfold num__law_number at q
    walk_at "w"
    walk_at "if"
    · rename_i h1
      rw [if_pos h1] at q
      walk_at "w"
      walk_at "fin"
    · rename_i h1
      rw [if_neg h1] at q
      walk_at "w"
      walk_at "if"
      · rename_i h2
        rw [if_pos h2] at q
        walk_at "w"
        walk_at "fin"
      · rename_i h2
        rw [if_neg h2] at q
        walk_at "w"
        walk_at "fin"

end

section
variable {P : Program} {w : World} {K : PySem.W.Frag} {mg : Str → Option Value} {base : Heap}
/-- a drawn row -/
def drawn (ns : List Int) (place size many : Int) : List Int :=
  trim (if 0 < many then (List.range many.toNat).map (fun (k : Nat) => num__law_number (gat ns place + 97 * (k : Int) * (k : Int) + 13 * (k : Int)))
    else (List.range size.toNat).map (fun (k : Nat) => num__law_number (gat ns (place + (k : Int)))))
theorem drawn_len (ns : List Int) {place size many : Int} (h1 : size ≤ 100) (h2 : many ≤ 101) : (drawn ns place size many).length ≤ 101 := by
  unfold drawn
  refine Nat.le_trans (trim_length_le _) ?_
  split <;> (simp; omega)
theorem drawn_len2 (ns : List Int) {place size many : Int} {n : Nat} (h1 : size ≤ n) (h2 : many ≤ n) : (drawn ns place size many).length ≤ n := by
  unfold drawn
  refine Nat.le_trans (trim_length_le _) ?_
  split <;> (simp; omega)
theorem drawn_tr (ns : List Int) (place size many : Int) : Tr (drawn ns place size many) := tr_trim _
theorem drawn_bd (ns : List Int) (place size many : Int) : BdL 140 (drawn ns place size many) := by
  refine BdL.trim fun x hx => ?_
  split at hx
  · obtain ⟨k, _, rfl⟩ := List.mem_map.mp hx
    exact num__law_number_bd _
  · obtain ⟨k, _, rfl⟩ := List.mem_map.mp hx
    exact num__law_number_bd _
def sp__law_drawn (K : PySem.W.Frag) : Sp := fun vs H Q _ => ∃ (a : Addr) (ns : List Int) (place size many : Int), vs = [.ref a, .int place, .int size, .int many] ∧ SqL K H a (zV ns) ∧ 0 ≤ place ∧ (0 ≤ size ∧ size ≤ 1000) ∧ (0 ≤ many ∧ many ≤ 1000) ∧
  ∀ p, NR Q (.ref p) H [(p, .lst (zV (drawn ns place size many)))]
theorem WC__law_drawn {K : PySem.W.Frag} {H0 : Hp} {fs : Fs} {Φ : CV} {a : Addr} {ns : List Int} {place size many : Int} (h : Rl K H0 fs a (zV ns)) (hi : 0 ≤ place) (hs : 0 ≤ size ∧ size ≤ 1000) (hm : 0 ≤ many ∧ many ≤ 1000)
    (q : ∀ p, Φ (.ref p) ((p, .lst (zV (drawn ns place size many))) :: fs)) : WC (sp__law_drawn K) [.ref a, .int place, .int size, .int many] H0 fs Φ :=
  fun H k Q E c => ⟨a, ns, place, size, many, rfl, h H k, hi, hs, hm, fun p H' k' => c _ _ _ (k.app k') (q p)⟩
theorem ok__law_drawn (T : Txt K mg) : FnOk P w K mg base CX0 2 T.a__law_drawn T.d__law_drawn ["_law_script", "_law_place", "_law_size", "_law_many"] (sp__law_drawn K) := by
  refine T.F__law_drawn.ok sc__law_drawn (fun vs H Q E h => ?_) (fun cdv A outer s H vs Q E hr h => ?_)
  · obtain ⟨a, ns, place, size, many, rfl, _⟩ := h; rfl
  · obtain ⟨a, ns, place, size, many, rfl, hA, h0, hs, hm, q⟩ := h
    refine ⟨_, (pss_cons (ps_setLc (i := 4) (own := [("_law_k", 5)]) (g := gName 5) (tt := tYes) rfl sc__law_drawn.nd rfl rfl (sw_true rfl rfl rfl (by decide +kernel)) (pi_range1 rfl T.z_range (pa_cons (pv 2) pa_nil)) (blkOk_by (own := [("_law_k", 5)]) (N := ["_law_script", "_law_place", "_law_size", "_law_many", "_law_row", "_law_k"]) (sc := defScope s__law_drawn) (by decide +kernel)) (fun _ _ _ _ _ => pg_name (i := 5) sc__law_drawn.nd rfl (Or.inl rfl)) (fun _ _ _ _ _ => pts_nil) (fun _ _ _ _ _ => (pe_call (ok__law_number T) (hr.mono (by decide)) (by rfl) T.m__law_number T.F__law_number.kp T.b__law_number .nil pass0 (pa_cons (pe_call (ok__law_cell_at T) (hr.mono (by decide)) (by rfl) T.m__law_cell_at T.F__law_cell_at.kp T.b__law_cell_at .nil pass0 (pa_cons (pv 0) (pa_cons (pe_op op_add (pv 1) (pv 5)) pa_nil))) pa_nil))))
      (pss_cons (ps_if (pt_cmpR op_gt (pv 3) pe_int (nomark _)) (pss_one (ps_setLc (i := 4) (own := [("_law_k", 5)]) (g := gName 5) (tt := tYes) rfl sc__law_drawn.nd rfl rfl (sw_true rfl rfl rfl (by decide +kernel)) (pi_range1 rfl T.z_range (pa_cons (pv 3) pa_nil)) (blkOk_by (own := [("_law_k", 5)]) (N := ["_law_script", "_law_place", "_law_size", "_law_many", "_law_row", "_law_k"]) (sc := defScope s__law_drawn) (by decide +kernel)) (fun _ _ _ _ _ => pg_name (i := 5) sc__law_drawn.nd rfl (Or.inl rfl)) (fun _ _ _ _ _ => pts_nil) (fun _ _ _ _ _ => (pe_call (ok__law_number T) (hr.mono (by decide)) (by rfl) T.m__law_number T.F__law_number.kp T.b__law_number .nil pass0 (pa_cons (pe_op op_add (pe_op op_add (pe_call (ok__law_cell_at T) (hr.mono (by decide)) (by rfl) T.m__law_cell_at T.F__law_cell_at.kp T.b__law_cell_at .nil pass0 (pa_cons (pv 0) (pa_cons (pv 1) pa_nil))) (pe_op op_mulG (pe_op op_mulG pe_int (pv 5)) (pv 5))) (pe_op op_mulG pe_int (pv 5))) pa_nil))))) pss_nil)
      (pss_one (ps_ret (pe_call (ok__law_trim T) (hr.mono (by decide)) (by rfl) T.m__law_trim T.F__law_trim.kp T.b__law_trim .nil pass0 (pa_cons (pv 4) pa_nil)))))), ?_⟩
    refine N.go (σ := [some (.ref a), some (.int place), some (.int size), some (.int many), none, none]) ?_
    walk_at "w"
    refine W.lcRz (n := size) (fun (k : Nat) => num__law_number (gat ns (place + (k : Int)))) ?_
    walk_at "w"
    refine ⟨rfl, by omega, by omega, fun _ => rfl, fun i D acc hi => ?_, fun D => ?_⟩
    · walk_at "d"
      walk_at "w"
      refine WC__law_cell_at (ns := ns) (by walk_at "rl") (by omega) ?_
      walk_at "w"
      refine WC__law_number ?_
      exact ⟨rfl, by walk_at "sub"⟩
    · walk_at "d"
      walk_at "w"
      walk_at "if"
      · walk_at "w"
        rename_i hpos
        refine W.lcRz (n := many) (fun (k : Nat) => num__law_number (gat ns place + 97 * (k : Int) * (k : Int) + 13 * (k : Int))) ?_
        walk_at "w"
        refine ⟨rfl, by omega, by omega, fun _ => rfl, fun i D acc hi => ?_, fun D => ?_⟩
        · walk_at "d"
          walk_at "w"
          refine WC__law_cell_at (ns := ns) (by walk_at "rl") (by omega) ?_
          walk_at "w"
          refine WC__law_number ?_
          exact ⟨rfl, by walk_at "sub"⟩
        · walk_at "d"
          walk_at "w"
          refine WC__law_trim (by walk_at "rx") (by simp; omega) fun p => ?_
          unfold drawn at q
          rw [if_pos hpos] at q
          exact NR.sub (q p) (by walk_at "sub")
      · walk_at "w"
        rename_i hpos
        refine WC__law_trim (by walk_at "rx") (by simp; omega) fun p => ?_
        unfold drawn at q
        rw [if_neg hpos] at q
        exact NR.sub (q p) (by walk_at "sub")

end

section
variable {P : Program} {w : World} {K : PySem.W.Frag} {mg : Str → Option Value} {base : Heap}
def sp__law_number_at (K : PySem.W.Frag) : Sp := fun vs H Q _ => ∃ (a : Addr) (ns : List Int) (i : Int), vs = [.ref a, .int i] ∧ SqL K H a (zV ns) ∧ 0 ≤ i ∧ NR Q (.int (gat ns i)) H []
theorem WC__law_number_at {K : PySem.W.Frag} {H0 : Hp} {fs : Fs} {Φ : CV} {a : Addr} {ns : List Int} {i : Int} (h : Rl K H0 fs a (zV ns)) (hi : 0 ≤ i) (q : Φ (.int (gat ns i)) fs) : WC (sp__law_number_at K) [.ref a, .int i] H0 fs Φ :=
  fun H k Q E c => ⟨a, ns, i, rfl, h H k, hi, fun H' k' => c _ _ _ (k.app k') q⟩
theorem ok__law_number_at (T : Txt K mg) : FnOk P w K mg base CX0 1 T.a__law_number_at T.d__law_number_at ["_law_row", "_law_place"] (sp__law_number_at K) := by
  refine T.F__law_number_at.ok sc__law_number_at (fun vs H Q E h => ?_) (fun cdv A outer s H vs Q E hr h => ?_)
  · obtain ⟨a, ns, i, rfl, _⟩ := h; rfl
  · obtain ⟨a, ns, i, rfl, hS, h0, q⟩ := h
    refine ⟨_, (pss_cons (ps_if (pt_cmpR op_lt (pv 1) (pe_callB cLen (by rfl) T.z_len PySem.boot_len (pa_cons (pv 0) pa_nil)) (nomark _)) (pss_one (ps_ret (pe_ix ix_list (pv 0) (pv 1) (fun _ _ => rfl)))) pss_nil)
      (pss_one (ps_ret pe_int))), ?_⟩
    refine N.go (σ := [some (.ref a), some (.int i)]) ?_
    walk_at "w"
    walk_at "if"
    · walk_at "w"
      walk_at "fin"
    · walk_at "w"
      have e : gat ns i = 0 := by
        unfold gat
        rw [List.getD_eq_getElem?_getD, List.getElem?_eq_none (by omega)]; rfl
      rw [e] at q
      walk_at "fin"

end

section
variable {P : Program} {w : World} {K : PySem.W.Frag} {mg : Str → Option Value} {base : Heap}
def sp__law_due : Sp := fun vs H Q _ => ∃ (a b : Addr) (xs ys : List Int) (m : Int), vs = [.ref a, .ref b, .int m] ∧ H a = some (.lst (zV xs)) ∧ H b = some (.lst (zV ys)) ∧ (xs.length ≤ 1000 ∧ ys.length ≤ 1000) ∧ BdL 140 xs ∧ Bd 140 m ∧
  ∀ p1 p2 p3 p, NR Q (.ref p) H [(p, .lst [.ref p1, .ref p2, .ref p3]), (p3, .lst (zV (scaled xs m))), (p2, .lst (zV (minus xs ys))), (p1, .lst (zV (plus xs ys)))]
theorem WC__law_due {H0 : Hp} {fs : Fs} {Φ : CV} {a b : Addr} {xs ys : List Int} {m : Int} (h : Rx H0 fs a (.lst (zV xs))) (h2 : Rx H0 fs b (.lst (zV ys))) (hl : xs.length ≤ 1000 ∧ ys.length ≤ 1000) (hb : BdL 140 xs) (hm : Bd 140 m)
    (q : ∀ p1 p2 p3 p, Φ (.ref p) ((p, .lst [.ref p1, .ref p2, .ref p3]) :: (p3, .lst (zV (scaled xs m))) :: (p2, .lst (zV (minus xs ys))) :: (p1, .lst (zV (plus xs ys))) :: fs)) : WC sp__law_due [.ref a, .ref b, .int m] H0 fs Φ :=
  fun H k Q E c => ⟨a, b, xs, ys, m, rfl, h H k, h2 H k, hl, hb, hm, fun p1 p2 p3 p H' k' => c _ _ _ (k.app k') (q p1 p2 p3 p)⟩
theorem ok__law_due (T : Txt K mg) : FnOk P w K mg base CX0 2 T.a__law_due T.d__law_due ["_law_ones", "_law_others", "_law_many"] sp__law_due := by
  refine T.F__law_due.ok sc__law_due (fun vs H Q E h => ?_) (fun cdv A outer s H vs Q E hr h => ?_)
  · obtain ⟨a, b, xs, ys, m, rfl, _⟩ := h; rfl
  · obtain ⟨a, b, xs, ys, m, rfl, hA, hB, hl, hb, hm, q⟩ := h
    refine ⟨_, (pss_cons (ps_set (i := 3) sc__law_due.nd rfl (Or.inl rfl) (pe_callB (cMax2 rfl) (by rfl) T.z_max (by decide +kernel) (pa_cons (pe_callB cLen (by rfl) T.z_len PySem.boot_len (pa_cons (pv 0) pa_nil)) (pa_cons (pe_callB cLen (by rfl) T.z_len PySem.boot_len (pa_cons (pv 1) pa_nil)) pa_nil))))
      (pss_one (ps_ret (pe_lst (pa_cons (pe_call (ok__law_trim T) (hr.mono (by decide)) (by rfl) T.m__law_trim T.F__law_trim.kp T.b__law_trim .nil pass0 (pa_cons (pe_lc (own := [("_law_k", 4)]) (g := gName 4) (tt := tYes) rfl sc__law_due.nd (pi_range1 rfl T.z_range (pa_cons (pv 3) pa_nil)) (blkOk_by (own := [("_law_k", 4)]) (N := ["_law_ones", "_law_others", "_law_many", "_law_size", "_law_k", "_law_number_here"]) (sc := defScope s__law_due) (by decide +kernel)) (fun _ _ _ _ _ => pg_name (i := 4) sc__law_due.nd rfl (Or.inl rfl)) (fun _ _ _ _ _ => pts_nil) (fun _ _ _ _ _ => (pe_op op_add (pe_call (ok__law_number_at T) (hr.mono (by decide)) (by rfl) T.m__law_number_at T.F__law_number_at.kp T.b__law_number_at .nil pass0 (pa_cons (pv 0) (pa_cons (pv 4) pa_nil))) (pe_call (ok__law_number_at T) (hr.mono (by decide)) (by rfl) T.m__law_number_at T.F__law_number_at.kp T.b__law_number_at .nil pass0 (pa_cons (pv 1) (pa_cons (pv 4) pa_nil)))))) pa_nil)) (pa_cons (pe_call (ok__law_trim T) (hr.mono (by decide)) (by rfl) T.m__law_trim T.F__law_trim.kp T.b__law_trim .nil pass0 (pa_cons (pe_lc (own := [("_law_k", 4)]) (g := gName 4) (tt := tYes) rfl sc__law_due.nd (pi_range1 rfl T.z_range (pa_cons (pv 3) pa_nil)) (blkOk_by (own := [("_law_k", 4)]) (N := ["_law_ones", "_law_others", "_law_many", "_law_size", "_law_k", "_law_number_here"]) (sc := defScope s__law_due) (by decide +kernel)) (fun _ _ _ _ _ => pg_name (i := 4) sc__law_due.nd rfl (Or.inl rfl)) (fun _ _ _ _ _ => pts_nil) (fun _ _ _ _ _ => (pe_op op_sub (pe_call (ok__law_number_at T) (hr.mono (by decide)) (by rfl) T.m__law_number_at T.F__law_number_at.kp T.b__law_number_at .nil pass0 (pa_cons (pv 0) (pa_cons (pv 4) pa_nil))) (pe_call (ok__law_number_at T) (hr.mono (by decide)) (by rfl) T.m__law_number_at T.F__law_number_at.kp T.b__law_number_at .nil pass0 (pa_cons (pv 1) (pa_cons (pv 4) pa_nil)))))) pa_nil)) (pa_cons (pe_call (ok__law_trim T) (hr.mono (by decide)) (by rfl) T.m__law_trim T.F__law_trim.kp T.b__law_trim .nil pass0 (pa_cons (pe_lc (own := [("_law_number_here", 5)]) (g := gName 5) (tt := tYes) rfl sc__law_due.nd (pi_list (pv 0)) (blkOk_by (own := [("_law_number_here", 5)]) (N := ["_law_ones", "_law_others", "_law_many", "_law_size", "_law_k", "_law_number_here"]) (sc := defScope s__law_due) (by decide +kernel)) (fun _ _ _ _ _ => pg_name (i := 5) sc__law_due.nd rfl (Or.inl rfl)) (fun _ _ _ _ _ => pts_nil) (fun _ _ _ _ _ => (pe_op op_mulG (pv 2) (pv 5)))) pa_nil)) pa_nil))))))), ?_⟩
    refine N.go (σ := [some (.ref a), some (.ref b), some (.int m), none, none, none]) ?_
    walk_at "w"
    walk_at "d"
    walk_at "w"
    refine W.lcRz (n := max (xs.length : Int) (ys.length : Int)) (fun k => gat xs (k : Int) + gat ys (k : Int)) ?_
    walk_at "w"
    refine ⟨rfl, by omega, by omega, fun _ => rfl, fun i D acc hi => ?_, fun D => ?_⟩
    · walk_at "d"
      walk_at "w"
      refine WC__law_number_at (ns := xs) (by walk_at "rl") (by omega) ?_
      walk_at "w"
      refine WC__law_number_at (ns := ys) (by walk_at "rl") (by omega) ?_
      walk_at "w"
      exact ⟨rfl, by walk_at "sub"⟩
    walk_at "w"
    refine WC__law_trim (by walk_at "rx") (by simp; omega) fun p1 => ?_
    walk_at "w"
    refine W.lcRz (n := max (xs.length : Int) (ys.length : Int)) (fun k => gat xs (k : Int) - gat ys (k : Int)) ?_
    walk_at "w"
    refine ⟨rfl, by omega, by omega, fun _ => rfl, fun i D acc hi => ?_, fun D => ?_⟩
    · walk_at "d"
      walk_at "w"
      refine WC__law_number_at (ns := xs) (by walk_at "rl") (by omega) ?_
      walk_at "w"
      refine WC__law_number_at (ns := ys) (by walk_at "rl") (by omega) ?_
      walk_at "w"
      exact ⟨rfl, by walk_at "sub"⟩
    walk_at "w"
    refine WC__law_trim (by walk_at "rx") (by simp; omega) fun p2 => ?_
    walk_at "w"
    refine W.lcZz (ns := xs) (fun x => m * x) ?_
    walk_at "w"
    refine ⟨by walk_at "rl", by omega, fun _ => rfl, fun x D acc hx => ?_, fun D => ?_⟩
    · walk_at "d"
      have hok : IntMulOk m x := mulB hm (hb x hx) (by omega)
      walk_at "w"
      exact ⟨rfl, by walk_at "sub"⟩
    walk_at "w"
    refine WC__law_trim (by walk_at "rx") (by rw [List.length_map]; omega) fun p3 => ?_
    walk_at "w"
    refine ⟨by simp, fun p => ?_⟩
    exact NR.sub (q p1 p2 p3 p) (by walk_at "sub")

end

section
variable {P : Program} {w : World} {K : PySem.W.Frag} {mg : Str → Option Value} {base : Heap}
def sp__law_told : Sp := fun vs H Q _ => ∃ (a b : Addr) (xs ys : List Int) (m : Int), vs = [.ref a, .ref b, .int m] ∧ H a = some (.lst (zV xs)) ∧ H b = some (.lst (zV ys)) ∧ (xs.length ≤ 1000 ∧ ys.length ≤ 1000) ∧ BdL 140 xs ∧ Bd 140 m ∧
  ∀ p1 p2 p3 p, NR Q (.ref p) H [(p, .lst [.ref p1, .ref p2, .ref p3]), (p3, .lst (zV (scaled xs m))), (p2, .lst (zV (minus xs ys))), (p1, .lst (zV (plus xs ys)))]
theorem WC__law_told {H0 : Hp} {fs : Fs} {Φ : CV} {a b : Addr} {xs ys : List Int} {m : Int} (h : Rx H0 fs a (.lst (zV xs))) (h2 : Rx H0 fs b (.lst (zV ys))) (hl : xs.length ≤ 1000 ∧ ys.length ≤ 1000) (hb : BdL 140 xs) (hm : Bd 140 m)
    (q : ∀ p1 p2 p3 p, Φ (.ref p) ((p, .lst [.ref p1, .ref p2, .ref p3]) :: (p3, .lst (zV (scaled xs m))) :: (p2, .lst (zV (minus xs ys))) :: (p1, .lst (zV (plus xs ys))) :: fs)) : WC sp__law_told [.ref a, .ref b, .int m] H0 fs Φ :=
  fun H k Q E c => ⟨a, b, xs, ys, m, rfl, h H k, h2 H k, hl, hb, hm, fun p1 p2 p3 p H' k' => c _ _ _ (k.app k') (q p1 p2 p3 p)⟩
theorem ok__law_told (T : Txt K mg) : FnOk P w K mg base CX0 3 T.a__law_told T.d__law_told ["_law_ones", "_law_others", "_law_many"] sp__law_told := by
  refine T.F__law_told.ok sc__law_told (fun vs H Q E h => ?_) (fun cdv A outer s H vs Q E hr h => ?_)
  · obtain ⟨a, b, xs, ys, m, rfl, _⟩ := h; rfl
  · obtain ⟨a, b, xs, ys, m, rfl, hA, hB, hl, hb, hm, q⟩ := h
    refine ⟨_, (pss_one (ps_ret (pe_lst (pa_cons (pe_call (ok_plus T) (hr.mono (by decide)) (by rfl) T.m_plus T.F_plus.kp T.b_plus .nil pass0 (pa_cons (pv 0) (pa_cons (pv 1) pa_nil))) (pa_cons (pe_call (ok_minus T) (hr.mono (by decide)) (by rfl) T.m_minus T.F_minus.kp T.b_minus .nil pass0 (pa_cons (pv 0) (pa_cons (pv 1) pa_nil))) (pa_cons (pe_call (ok_scaled T) (hr.mono (by decide)) (by rfl) T.m_scaled T.F_scaled.kp T.b_scaled .nil pass0 (pa_cons (pv 0) (pa_cons (pv 2) pa_nil))) pa_nil)))))), ?_⟩
    refine N.go (σ := [some (.ref a), some (.ref b), some (.int m)]) ?_
    walk_at "w"
    refine WC_plus (by walk_at "rx") (by walk_at "rx") (by omega) fun p1 => ?_
    walk_at "w"
    refine WC_minus (xs := xs) (ys := ys) (by walk_at "rx") (by walk_at "rx") (by omega) fun p2 => ?_
    walk_at "w"
    refine WC_scaled (xs := xs) 140 140 (by walk_at "rx") (by omega) hb hm (by omega) fun p3 => ?_
    walk_at "w"
    refine ⟨by simp, fun p => ?_⟩
    exact NR.sub (q p1 p2 p3 p) (by walk_at "sub")

end

section
variable {P : Program} {w : World} {K : PySem.W.Frag} {mg : Str → Option Value} {base : Heap}
def sp_law (K : PySem.W.Frag) : Sp := fun vs H Q _ => ∃ (a : Addr) (ns : List Int), vs = [.ref a] ∧ SqL K H a (ns.map V.int) ∧ ns.length ≤ 63 ∧ ∀ H', Q (.bl true) H'
theorem ok_law (T : Txt K mg) : FnOk P w K mg base CX0 4 T.a_law T.d_law ["_law_script"] (sp_law K) := by
  refine T.F_law.ok sc_law (fun vs H Q E h => ?_) (fun cdv A outer s H vs Q E hr h => ?_)
  · obtain ⟨a, ns, rfl, _⟩ := h; rfl
  · obtain ⟨a, ns, rfl, hA, hl, q⟩ := h
    have hA : SqL K H a (zV ns) := hA
    refine ⟨_, (pss_cons (ps_set (i := 1) sc_law.nd rfl (Or.inl rfl) (pe_call (ok__law_cell_at T) (hr.mono (by decide)) (by rfl) T.m__law_cell_at T.F__law_cell_at.kp T.b__law_cell_at .nil pass0 (pa_cons (pv 0) (pa_cons pe_int pa_nil))))
      (pss_cons (ps_set (i := 2) sc_law.nd rfl (Or.inl rfl) (pe_call (ok__law_cell_at T) (hr.mono (by decide)) (by rfl) T.m__law_cell_at T.F__law_cell_at.kp T.b__law_cell_at .nil pass0 (pa_cons (pv 0) (pa_cons pe_int pa_nil))))
      (pss_cons (ps_set (i := 3) sc_law.nd rfl (Or.inl rfl) pe_int)
      (pss_cons (ps_if (pt_cmpR op_eq (pe_op op_mod (pv 1) pe_int) pe_int (nomark _)) (pss_one (ps_set (i := 3) sc_law.nd rfl (Or.inl rfl) (pe_op op_mod (pe_op op_fdiv (pv 1) pe_int) pe_int))) pss_nil)
      (pss_cons (ps_set (i := 4) sc_law.nd rfl (Or.inl rfl) (pe_call (ok__law_drawn T) (hr.mono (by decide)) (by rfl) T.m__law_drawn T.F__law_drawn.kp T.b__law_drawn .nil pass0 (pa_cons (pv 0) (pa_cons pe_int (pa_cons (pe_op op_mod (pe_op op_fdiv (pv 1) pe_int) pe_int) (pa_cons (pv 3) pa_nil))))))
      (pss_cons (ps_set (i := 5) sc_law.nd rfl (Or.inl rfl) (pe_call (ok__law_drawn T) (hr.mono (by decide)) (by rfl) T.m__law_drawn T.F__law_drawn.kp T.b__law_drawn .nil pass0 (pa_cons (pv 0) (pa_cons pe_int (pa_cons (pe_op op_mod (pe_op op_fdiv (pv 2) pe_int) pe_int) (pa_cons pe_int pa_nil))))))
      (pss_cut (ps_if (pt_cmpR op_eq (pe_op op_mod (pv 2) pe_int) pe_int (nomark _)) (pss_one (ps_set (i := 5) sc_law.nd rfl (Or.inl rfl) (pe_call (ok__law_drawn T) (hr.mono (by decide)) (by rfl) T.m__law_drawn T.F__law_drawn.kp T.b__law_drawn .nil pass0 (pa_cons (pv 0) (pa_cons pe_int (pa_cons pe_int (pa_cons (pe_op op_mod (pe_op op_fdiv (pv 2) pe_int) pe_int) pa_nil))))))) pss_nil)
      (pss_cut (ps_if (pt_cmpR op_eq (pe_op op_mod (pv 2) pe_int) pe_int (nomark _)) (pss_one (ps_set (i := 5) sc_law.nd rfl (Or.inl rfl) (pe_call (ok__law_trim T) (hr.mono (by decide)) (by rfl) T.m__law_trim T.F__law_trim.kp T.b__law_trim .nil pass0 (pa_cons (pe_op op_cat (pe_slice sl_list (pv 5) po_none (po_some (pe_op op_mod (pe_op op_fdiv (pv 2) pe_int) pe_int))) (pe_lc (own := [("_law_number_here", 6)]) (g := gName 6) (tt := tYes) rfl sc_law.nd (pi_list (pe_slice sl_list (pv 4) (po_some (pe_op op_mod (pe_op op_fdiv (pv 2) pe_int) pe_int)) po_none)) (blkOk_by (own := [("_law_number_here", 6)]) (N := ["_law_script", "_law_first", "_law_second", "_law_many", "_law_ones", "_law_others", "_law_number_here", "_law_due_here", "_law_handed", "_law_found", "_law_k", "_law_again"]) (sc := defScope s_law) (by decide +kernel)) (fun _ _ _ _ _ => pg_name (i := 6) sc_law.nd rfl (Or.inl rfl)) (fun _ _ _ _ _ => pts_nil) (fun _ _ _ _ _ => (pe_un un_neg (pv 6))))) pa_nil)))) pss_nil)
      (pss_cons (ps_set (i := 6) sc_law.nd rfl (Or.inl rfl) (pe_call (ok__law_number T) (hr.mono (by decide)) (by rfl) T.m__law_number T.F__law_number.kp T.b__law_number .nil pass0 (pa_cons (pe_call (ok__law_cell_at T) (hr.mono (by decide)) (by rfl) T.m__law_cell_at T.F__law_cell_at.kp T.b__law_cell_at .nil pass0 (pa_cons (pv 0) (pa_cons pe_int pa_nil))) pa_nil)))
      (pss_cons (ps_set (i := 7) sc_law.nd rfl (Or.inl rfl) (pe_call (ok__law_due T) (hr.mono (by decide)) (by rfl) T.m__law_due T.F__law_due.kp T.b__law_due .nil pass0 (pa_cons (pv 4) (pa_cons (pv 5) (pa_cons (pv 6) pa_nil)))))
      (pss_cons (ps_set (i := 8) sc_law.nd rfl (Or.inl rfl) (pe_lst (pa_cons (pe_callTy cListOf (by rfl) T.z_list (by decide +kernel) (pa_cons (pv 4) pa_nil)) (pa_cons (pe_callTy cListOf (by rfl) T.z_list (by decide +kernel) (pa_cons (pv 5) pa_nil)) pa_nil))))
      (pss_cons (ps_set (i := 9) sc_law.nd rfl (Or.inl rfl) (pe_call (ok__law_told T) (hr.mono (by decide)) (by rfl) T.m__law_told T.F__law_told.kp T.b__law_told .nil pass0 (pa_cons (pe_ix ix_list (pv 8) pe_int (fun _ _ => rfl)) (pa_cons (pe_ix ix_list (pv 8) pe_int (fun _ _ => rfl)) (pa_cons (pv 6) pa_nil)))))
      (pss_cons (ps_for PassesOwn.never rfl (pi_range1 rfl T.z_range (pa_cons pe_int pa_nil)) (pg_name (i := 10) sc_law.nd rfl (Or.inl rfl)) (pss_cons (ps_if (pt_not (pt_val (pe_call (ok__law_same T) (hr.mono (by decide)) (by rfl) T.m__law_same T.F__law_same.kp T.b__law_same .nil pass0 (pa_cons (pe_ix ix_list (pv 9) (pv 10) (fun _ _ => rfl)) (pa_cons (pe_ix ix_list (pv 7) (pv 10) (fun _ _ => rfl)) pa_nil))))) (pss_one (ps_ret pe_bl)) pss_nil)
      (pss_one (ps_expr (pe_bm PySem.F.plainAttrs_list PySem.F.slot_list_append PySem.F.type_list_append mt_append (pe_ix ix_list (pv 9) (pv 10) (fun _ _ => rfl)) (pa_cons pe_int pa_nil))))))
      (pss_cons (ps_set (i := 11) sc_law.nd rfl (Or.inl rfl) (pe_call (ok__law_told T) (hr.mono (by decide)) (by rfl) T.m__law_told T.F__law_told.kp T.b__law_told .nil pass0 (pa_cons (pe_ix ix_list (pv 8) pe_int (fun _ _ => rfl)) (pa_cons (pe_ix ix_list (pv 8) pe_int (fun _ _ => rfl)) (pa_cons (pv 6) pa_nil)))))
      (pss_cons (ps_for PassesOwn.never rfl (pi_range1 rfl T.z_range (pa_cons pe_int pa_nil)) (pg_name (i := 10) sc_law.nd rfl (Or.inl rfl)) (pss_one (ps_if (pt_not (pt_val (pe_call (ok__law_same T) (hr.mono (by decide)) (by rfl) T.m__law_same T.F__law_same.kp T.b__law_same .nil pass0 (pa_cons (pe_ix ix_list (pv 11) (pv 10) (fun _ _ => rfl)) (pa_cons (pe_ix ix_list (pv 7) (pv 10) (fun _ _ => rfl)) pa_nil))))) (pss_one (ps_ret pe_bl)) pss_nil)))
      (pss_one (ps_ret (pe_and (pe_call (ok__law_same T) (hr.mono (by decide)) (by rfl) T.m__law_same T.F__law_same.kp T.b__law_same .nil pass0 (pa_cons (pe_ix ix_list (pv 8) pe_int (fun _ _ => rfl)) (pa_cons (pv 4) pa_nil))) (pe_one (pe_call (ok__law_same T) (hr.mono (by decide)) (by rfl) T.m__law_same T.F__law_same.kp T.b__law_same .nil pass0 (pa_cons (pe_ix ix_list (pv 8) pe_int (fun _ _ => rfl)) (pa_cons (pv 5) pa_nil)))))))))))))))))))))), ?_⟩
    refine N.go (σ := [some (.ref a), none, none, none, none, none, none, none, none, none, none, none]) ?_
    walk_at "w"
    refine WC__law_cell_at (ns := ns) (by walk_at "rl") (by omega) ?_
    generalize gat ns 0 = first
    walk_at "d"
    walk_at "w"
    refine WC__law_cell_at (ns := ns) (by walk_at "rl") (by omega) ?_
    generalize gat ns 1 = second
    walk_at "d"
    walk_at "w0"
    walk_at "d"
    obtain ⟨many, hmany⟩ : ∃ m, m = if first % 4 = 1 then first / 4 % 101 else 0 := ⟨_, rfl⟩
    have hm : 0 ≤ many ∧ many ≤ 100 := by
      rw [hmany]; split <;> omega
    refine S.ifset (.int many) ?_ ?_
    · walk_at "w"
      refine ⟨rfl, fun hb => ?_, fun hb => ?_⟩
      · walk_at "w"
        rw [hmany, if_pos (of_decide_eq_true hb)]
        exact ⟨rfl, rfl⟩
      · rw [hmany, if_neg (of_decide_eq_false hb)]
        rfl
    walk_at "d"
    walk_at "w"
    refine WC__law_drawn (ns := ns) (by walk_at "rl") (by omega) (by omega) (by omega) fun r1 => ?_
    have hlen1 : (drawn ns 3 (first / 4 % 8) many).length ≤ 101 := drawn_len ns (by omega) (by omega)
    have hbd1 := drawn_bd ns 3 (first / 4 % 8) many
    generalize drawn ns 3 (first / 4 % 8) many = ones at hlen1 hbd1
    walk_at "d"
    walk_at "w"
    refine WC__law_drawn (ns := ns) (by walk_at "rl") (by omega) (by omega) (by omega) fun r2 => ?_
    have hlen2 : (drawn ns 11 (second / 4 % 8) 0).length ≤ 200 := Nat.le_trans (drawn_len ns (by omega) (by omega)) (by omega)
    have hbd2 := drawn_bd ns 11 (second / 4 % 8) 0
    generalize drawn ns 11 (second / 4 % 8) 0 = oth at hlen2 hbd2
    walk_at "d"
    refine S.cut (fun σ f => ∃ r ys, σ = [some (.ref a), some (.int first), some (.int second), some (.int many), some (.ref r1), some (.ref r), none, none, none, none, none, none] ∧ f = [(r, .lst (zV ys)), (r1, .lst (zV ones))] ∧ ys.length ≤ 200 ∧ BdL 140 ys) ?_ ?_
    · walk_at "w"
      walk_at "if"
      · walk_at "w"
        refine WC__law_drawn (ns := ns) (by walk_at "rl") (by omega) (by omega) (by omega) fun r => ?_
        walk_at "d"
        have hl3 := drawn_len ns (place := 11) (size := 0) (many := second / 4 % 101) (by omega) (by omega)
        refine Un.sub [(r, .lst (zV (drawn ns 11 0 (second / 4 % 101)))), (r1, .lst (zV ones))] (by walk_at "sub") ?_
        exact ⟨r, _, rfl, rfl, by omega, drawn_bd _ _ _ _⟩
      · walk_at "w"
        walk_at "un"
        exact ⟨r2, oth, rfl, rfl, hlen2, hbd2⟩
    rintro σ f ⟨r, ys, rfl, rfl, hlen2, hbd2⟩
    refine S.cut (fun σ f => ∃ r ys, σ = [some (.ref a), some (.int first), some (.int second), some (.int many), some (.ref r1), some (.ref r), none, none, none, none, none, none] ∧ f = [(r, .lst (zV ys)), (r1, .lst (zV ones))] ∧ ys.length ≤ 500 ∧ BdL 140 ys) ?_ ?_
    · walk_at "w"
      walk_at "if"
      · walk_at "w"
        intro l1
        walk_at "w"
        refine W.lcZz (ns := ones.drop (second / 32 % 5).toNat) (fun x => -x) ?_
        walk_at "w"
        intro l2
        refine ⟨_, rfl, by walk_at "rl", by rw [List.length_drop]; omega, fun _ => rfl, fun x D acc hx => ?_, fun D => ?_⟩
        · walk_at "d"
          walk_at "w"
          exact ⟨rfl, by walk_at "sub"⟩
        refine RW.catZ (by walk_at "rx") (by walk_at "rx") (by simp; omega) fun l3 => ?_
        walk_at "w"
        refine WC__law_trim (by walk_at "rx") (by simp; omega) fun r3 => ?_
        walk_at "d"
        refine Un.sub [(r3, .lst (zV (trim (ys.take (second / 32 % 5).toNat ++ (ones.drop (second / 32 % 5).toNat).map fun x => -x)))), (r1, .lst (zV ones))] (by walk_at "sub") ?_
        refine ⟨r3, _, rfl, rfl, Nat.le_trans (trim_length_le _) (by simp; omega), BdL.trim fun x hx => ?_⟩
        rcases List.mem_append.mp hx with hx | hx
        · exact hbd2 x (List.mem_of_mem_take hx)
        · obtain ⟨y, hy, rfl⟩ := List.mem_map.mp hx
          exact Bd.neg (hbd1 y (List.mem_of_mem_drop hy))
      · walk_at "w"
        walk_at "un"
        exact ⟨r, ys, rfl, rfl, by omega, hbd2⟩
    rintro σ f ⟨r, ys, rfl, rfl, hlen2, hbd2⟩
    walk_at "w"
    refine WC__law_cell_at (ns := ns) (by walk_at "rl") (by omega) ?_
    walk_at "w"
    refine WC__law_number ?_
    have hbm := num__law_number_bd (gat ns 2)
    generalize num__law_number (gat ns 2) = m at hbm
    walk_at "d"
    walk_at "w"
    refine WC__law_due (xs := ones) (ys := ys) (by walk_at "rx") (by walk_at "rx") (by omega) hbd1 hbm fun p1 p2 p3 p => ?_
    walk_at "d"
    walk_at "w"
    intro h1
    walk_at "w"
    intro h2
    walk_at "w"
    refine ⟨by simp, fun hh => ?_⟩
    walk_at "d"
    walk_at "w"
    refine WC__law_told (xs := ones) (ys := ys) (by walk_at "rx") (by walk_at "rx") (by omega) hbd1 hbm fun f1 f2 f3 fl => ?_
    have l1 : (plus ones ys).length ≤ 100000 := Nat.le_trans (plus_len _ _) (by omega)
    have l2 : (minus ones ys).length ≤ 100000 := Nat.le_trans (minus_len _ _) (by omega)
    have l3 : (scaled ones m).length ≤ 100000 := Nat.le_trans (scaled_len _ _) (by omega)
    walk_at "d"
    walk_at "w"
    refine S.forU 3 ?_
    walk_at "w"
    refine ⟨rfl, by omega, ?_⟩
    walk_at "w"
    walk_at "d"
    walk_at "w"
    refine WC__law_same (by walk_at "rx") (by walk_at "rx") l1 ?_
    walk_at "w"
    walk_at "app"
    · rw [zV_length]; exact Nat.lt_of_le_of_lt l1 (by omega)
    walk_at "d"
    walk_at "w"
    walk_at "d"
    walk_at "w"
    refine WC__law_same (by walk_at "rx") (by walk_at "rx") l2 ?_
    walk_at "w"
    walk_at "app"
    · rw [zV_length]; exact Nat.lt_of_le_of_lt l2 (by omega)
    walk_at "d"
    walk_at "w"
    walk_at "d"
    walk_at "w"
    refine WC__law_same (by walk_at "rx") (by walk_at "rx") l3 ?_
    walk_at "w"
    walk_at "app"
    · rw [zV_length]; exact Nat.lt_of_le_of_lt l3 (by omega)
    walk_at "d"
    walk_at "w"
    refine WC__law_told (xs := ones) (ys := ys) (by walk_at "rx") (by walk_at "rx") (by omega) hbd1 hbm fun g1 g2 g3 gl => ?_
    walk_at "d"
    walk_at "w"
    refine S.forU 3 ?_
    walk_at "w"
    refine ⟨rfl, by omega, ?_⟩
    walk_at "w"
    walk_at "d"
    walk_at "w"
    refine WC__law_same (by walk_at "rx") (by walk_at "rx") l1 ?_
    walk_at "w"
    walk_at "d"
    walk_at "w"
    refine WC__law_same (by walk_at "rx") (by walk_at "rx") l2 ?_
    walk_at "w"
    walk_at "d"
    walk_at "w"
    refine WC__law_same (by walk_at "rx") (by walk_at "rx") l3 ?_
    walk_at "w"
    refine WC__law_same (xs := ones) (by walk_at "rx") (by walk_at "rx") (by omega) ?_
    walk_at "w"
    refine WC__law_same (xs := ys) (by walk_at "rx") (by walk_at "rx") (by omega) ?_
    exact fun H' _ => q H'

end
open PySem PySem.Spec PyProof.Rows L2 in
theorem all_mk {l : PySem.W.OpenLaw} {w : World} {K : PySem.W.Frag} {h : Heap} {mg : Str → Option Value} {fa : Addr} (X : K.In h) (G : h.Ns mainGlobals mg) (hfa : mg "law" = some (.ref fa))
    {f_trimmed f_number_at f_plus f_minus f_scaled f__law_whole f__law_cell_at f__law_trim f__law_same f__law_number f__law_drawn f__law_number_at f__law_due f__law_told f_law : Addr} {od_trimmed an_trimmed od_number_at an_number_at od_plus an_plus od_minus an_minus od_scaled an_scaled od__law_whole an__law_whole od__law_cell_at an__law_cell_at od__law_trim an__law_trim od__law_same an__law_same od__law_number an__law_number od__law_drawn an__law_drawn od__law_number_at an__law_number_at od__law_due an__law_due od__law_told an__law_told od_law an_law : Option Addr} {sl_trimmed sl_number_at sl_plus sl_minus sl_scaled sl__law_whole sl__law_cell_at sl__law_trim sl__law_same sl__law_number sl__law_drawn sl__law_number_at sl__law_due sl__law_told sl_law : Array (Option Value)} {oc_trimmed kV_trimmed dc_trimmed pm_trimmed cd_trimmed ct_trimmed oc_number_at kV_number_at dc_number_at pm_number_at cd_number_at ct_number_at oc_plus kV_plus dc_plus pm_plus cd_plus ct_plus oc_minus kV_minus dc_minus pm_minus cd_minus ct_minus oc_scaled kV_scaled dc_scaled pm_scaled cd_scaled ct_scaled oc__law_whole kV__law_whole dc__law_whole pm__law_whole cd__law_whole ct__law_whole oc__law_cell_at kV__law_cell_at dc__law_cell_at pm__law_cell_at cd__law_cell_at ct__law_cell_at oc__law_trim kV__law_trim dc__law_trim pm__law_trim cd__law_trim ct__law_trim oc__law_same kV__law_same dc__law_same pm__law_same cd__law_same ct__law_same oc__law_number kV__law_number dc__law_number pm__law_number cd__law_number ct__law_number oc__law_drawn kV__law_drawn dc__law_drawn pm__law_drawn cd__law_drawn ct__law_drawn oc__law_number_at kV__law_number_at dc__law_number_at pm__law_number_at cd__law_number_at ct__law_number_at oc__law_due kV__law_due dc__law_due pm__law_due cd__law_due ct__law_due oc__law_told kV__law_told dc__law_told pm__law_told cd__law_told ct__law_told oc_law kV_law dc_law pm_law cd_law ct_law : Value}
    (a_trimmed : PySem.W.nsIn K mainGlobals "trimmed" = some (some (.ref f_trimmed))) (l_trimmed : K.lookup f_trimmed = some ⟨oc_trimmed, od_trimmed, .func (PySem.W.fnOf "trimmed" "trimmed" (defArgs s_trimmed) (defBody s_trimmed) (defScope s_trimmed) .none kV_trimmed dc_trimmed pm_trimmed an_trimmed cd_trimmed ct_trimmed), sl_trimmed⟩) (c_trimmed : PySem.W.codeIn K cd_trimmed "trimmed" = true) (k_trimmed : PySem.W.keepIn K (.ref f_trimmed) = true)
    (a_number_at : PySem.W.nsIn K mainGlobals "number_at" = some (some (.ref f_number_at))) (l_number_at : K.lookup f_number_at = some ⟨oc_number_at, od_number_at, .func (PySem.W.fnOf "number_at" "number_at" (defArgs s_number_at) (defBody s_number_at) (defScope s_number_at) .none kV_number_at dc_number_at pm_number_at an_number_at cd_number_at ct_number_at), sl_number_at⟩) (c_number_at : PySem.W.codeIn K cd_number_at "number_at" = true) (k_number_at : PySem.W.keepIn K (.ref f_number_at) = true)
    (a_plus : PySem.W.nsIn K mainGlobals "plus" = some (some (.ref f_plus))) (l_plus : K.lookup f_plus = some ⟨oc_plus, od_plus, .func (PySem.W.fnOf "plus" "plus" (defArgs s_plus) (defBody s_plus) (defScope s_plus) .none kV_plus dc_plus pm_plus an_plus cd_plus ct_plus), sl_plus⟩) (c_plus : PySem.W.codeIn K cd_plus "plus" = true) (k_plus : PySem.W.keepIn K (.ref f_plus) = true)
    (a_minus : PySem.W.nsIn K mainGlobals "minus" = some (some (.ref f_minus))) (l_minus : K.lookup f_minus = some ⟨oc_minus, od_minus, .func (PySem.W.fnOf "minus" "minus" (defArgs s_minus) (defBody s_minus) (defScope s_minus) .none kV_minus dc_minus pm_minus an_minus cd_minus ct_minus), sl_minus⟩) (c_minus : PySem.W.codeIn K cd_minus "minus" = true) (k_minus : PySem.W.keepIn K (.ref f_minus) = true)
    (a_scaled : PySem.W.nsIn K mainGlobals "scaled" = some (some (.ref f_scaled))) (l_scaled : K.lookup f_scaled = some ⟨oc_scaled, od_scaled, .func (PySem.W.fnOf "scaled" "scaled" (defArgs s_scaled) (defBody s_scaled) (defScope s_scaled) .none kV_scaled dc_scaled pm_scaled an_scaled cd_scaled ct_scaled), sl_scaled⟩) (c_scaled : PySem.W.codeIn K cd_scaled "scaled" = true) (k_scaled : PySem.W.keepIn K (.ref f_scaled) = true)
    (a__law_whole : PySem.W.nsIn K mainGlobals "_law_whole" = some (some (.ref f__law_whole))) (l__law_whole : K.lookup f__law_whole = some ⟨oc__law_whole, od__law_whole, .func (PySem.W.fnOf "_law_whole" "_law_whole" (defArgs s__law_whole) (defBody s__law_whole) (defScope s__law_whole) .none kV__law_whole dc__law_whole pm__law_whole an__law_whole cd__law_whole ct__law_whole), sl__law_whole⟩) (c__law_whole : PySem.W.codeIn K cd__law_whole "_law_whole" = true) (k__law_whole : PySem.W.keepIn K (.ref f__law_whole) = true)
    (a__law_cell_at : PySem.W.nsIn K mainGlobals "_law_cell_at" = some (some (.ref f__law_cell_at))) (l__law_cell_at : K.lookup f__law_cell_at = some ⟨oc__law_cell_at, od__law_cell_at, .func (PySem.W.fnOf "_law_cell_at" "_law_cell_at" (defArgs s__law_cell_at) (defBody s__law_cell_at) (defScope s__law_cell_at) .none kV__law_cell_at dc__law_cell_at pm__law_cell_at an__law_cell_at cd__law_cell_at ct__law_cell_at), sl__law_cell_at⟩) (c__law_cell_at : PySem.W.codeIn K cd__law_cell_at "_law_cell_at" = true) (k__law_cell_at : PySem.W.keepIn K (.ref f__law_cell_at) = true)
    (a__law_trim : PySem.W.nsIn K mainGlobals "_law_trim" = some (some (.ref f__law_trim))) (l__law_trim : K.lookup f__law_trim = some ⟨oc__law_trim, od__law_trim, .func (PySem.W.fnOf "_law_trim" "_law_trim" (defArgs s__law_trim) (defBody s__law_trim) (defScope s__law_trim) .none kV__law_trim dc__law_trim pm__law_trim an__law_trim cd__law_trim ct__law_trim), sl__law_trim⟩) (c__law_trim : PySem.W.codeIn K cd__law_trim "_law_trim" = true) (k__law_trim : PySem.W.keepIn K (.ref f__law_trim) = true)
    (a__law_same : PySem.W.nsIn K mainGlobals "_law_same" = some (some (.ref f__law_same))) (l__law_same : K.lookup f__law_same = some ⟨oc__law_same, od__law_same, .func (PySem.W.fnOf "_law_same" "_law_same" (defArgs s__law_same) (defBody s__law_same) (defScope s__law_same) .none kV__law_same dc__law_same pm__law_same an__law_same cd__law_same ct__law_same), sl__law_same⟩) (c__law_same : PySem.W.codeIn K cd__law_same "_law_same" = true) (k__law_same : PySem.W.keepIn K (.ref f__law_same) = true)
    (a__law_number : PySem.W.nsIn K mainGlobals "_law_number" = some (some (.ref f__law_number))) (l__law_number : K.lookup f__law_number = some ⟨oc__law_number, od__law_number, .func (PySem.W.fnOf "_law_number" "_law_number" (defArgs s__law_number) (defBody s__law_number) (defScope s__law_number) .none kV__law_number dc__law_number pm__law_number an__law_number cd__law_number ct__law_number), sl__law_number⟩) (c__law_number : PySem.W.codeIn K cd__law_number "_law_number" = true) (k__law_number : PySem.W.keepIn K (.ref f__law_number) = true)
    (a__law_drawn : PySem.W.nsIn K mainGlobals "_law_drawn" = some (some (.ref f__law_drawn))) (l__law_drawn : K.lookup f__law_drawn = some ⟨oc__law_drawn, od__law_drawn, .func (PySem.W.fnOf "_law_drawn" "_law_drawn" (defArgs s__law_drawn) (defBody s__law_drawn) (defScope s__law_drawn) .none kV__law_drawn dc__law_drawn pm__law_drawn an__law_drawn cd__law_drawn ct__law_drawn), sl__law_drawn⟩) (c__law_drawn : PySem.W.codeIn K cd__law_drawn "_law_drawn" = true) (k__law_drawn : PySem.W.keepIn K (.ref f__law_drawn) = true)
    (a__law_number_at : PySem.W.nsIn K mainGlobals "_law_number_at" = some (some (.ref f__law_number_at))) (l__law_number_at : K.lookup f__law_number_at = some ⟨oc__law_number_at, od__law_number_at, .func (PySem.W.fnOf "_law_number_at" "_law_number_at" (defArgs s__law_number_at) (defBody s__law_number_at) (defScope s__law_number_at) .none kV__law_number_at dc__law_number_at pm__law_number_at an__law_number_at cd__law_number_at ct__law_number_at), sl__law_number_at⟩) (c__law_number_at : PySem.W.codeIn K cd__law_number_at "_law_number_at" = true) (k__law_number_at : PySem.W.keepIn K (.ref f__law_number_at) = true)
    (a__law_due : PySem.W.nsIn K mainGlobals "_law_due" = some (some (.ref f__law_due))) (l__law_due : K.lookup f__law_due = some ⟨oc__law_due, od__law_due, .func (PySem.W.fnOf "_law_due" "_law_due" (defArgs s__law_due) (defBody s__law_due) (defScope s__law_due) .none kV__law_due dc__law_due pm__law_due an__law_due cd__law_due ct__law_due), sl__law_due⟩) (c__law_due : PySem.W.codeIn K cd__law_due "_law_due" = true) (k__law_due : PySem.W.keepIn K (.ref f__law_due) = true)
    (a__law_told : PySem.W.nsIn K mainGlobals "_law_told" = some (some (.ref f__law_told))) (l__law_told : K.lookup f__law_told = some ⟨oc__law_told, od__law_told, .func (PySem.W.fnOf "_law_told" "_law_told" (defArgs s__law_told) (defBody s__law_told) (defScope s__law_told) .none kV__law_told dc__law_told pm__law_told an__law_told cd__law_told ct__law_told), sl__law_told⟩) (c__law_told : PySem.W.codeIn K cd__law_told "_law_told" = true) (k__law_told : PySem.W.keepIn K (.ref f__law_told) = true)
    (a_law : PySem.W.nsIn K mainGlobals "law" = some (some (.ref f_law))) (l_law : K.lookup f_law = some ⟨oc_law, od_law, .func (PySem.W.fnOf "law" "law" (defArgs s_law) (defBody s_law) (defScope s_law) .none kV_law dc_law pm_law an_law cd_law ct_law), sl_law⟩) (c_law : PySem.W.codeIn K cd_law "law" = true) (k_law : PySem.W.keepIn K (.ref f_law) = true)
    (z_bool : PySem.W.nsIn K mainGlobals "bool" = some none)
    (z_int : PySem.W.nsIn K mainGlobals "int" = some none)
    (z_isinstance : PySem.W.nsIn K mainGlobals "isinstance" = some none)
    (z_len : PySem.W.nsIn K mainGlobals "len" = some none)
    (z_list : PySem.W.nsIn K mainGlobals "list" = some none)
    (z_max : PySem.W.nsIn K mainGlobals "max" = some none)
    (z_range : PySem.W.nsIn K mainGlobals "range" = some none)
    :
    ∃ fd : FuncData, (∀ (s : Shared) (v : Value), BindsTo s fd ⟨[v], []⟩ [("_law_script", v)]) ∧ ∀ base : Heap, K.In base → base.Ns mainGlobals mg →  FnOk l.prog w K mg base CX0 4 fa fd ["_law_script"] (sp_law K) := by
  have e := hfa.symm.trans (PySem.W.mg_of X G a_law)
  cases e
  have F_trimmed := fun_mk (st := s_trimmed) l_trimmed c_trimmed k_trimmed
  have b_trimmed := F_trimmed.binds (ps := ["row"]) fun _ _ _ _ _ _ us hl => match us, hl with | [_], _ => rfl
  have F_number_at := fun_mk (st := s_number_at) l_number_at c_number_at k_number_at
  have b_number_at := F_number_at.binds (ps := ["row", "place"]) fun _ _ _ _ _ _ us hl => match us, hl with | [_, _], _ => rfl
  have F_plus := fun_mk (st := s_plus) l_plus c_plus k_plus
  have b_plus := F_plus.binds (ps := ["ones", "others"]) fun _ _ _ _ _ _ us hl => match us, hl with | [_, _], _ => rfl
  have F_minus := fun_mk (st := s_minus) l_minus c_minus k_minus
  have b_minus := F_minus.binds (ps := ["ones", "others"]) fun _ _ _ _ _ _ us hl => match us, hl with | [_, _], _ => rfl
  have F_scaled := fun_mk (st := s_scaled) l_scaled c_scaled k_scaled
  have b_scaled := F_scaled.binds (ps := ["row", "many"]) fun _ _ _ _ _ _ us hl => match us, hl with | [_, _], _ => rfl
  have F__law_whole := fun_mk (st := s__law_whole) l__law_whole c__law_whole k__law_whole
  have b__law_whole := F__law_whole.binds (ps := ["_law_found"]) fun _ _ _ _ _ _ us hl => match us, hl with | [_], _ => rfl
  have F__law_cell_at := fun_mk (st := s__law_cell_at) l__law_cell_at c__law_cell_at k__law_cell_at
  have b__law_cell_at := F__law_cell_at.binds (ps := ["_law_script", "_law_k"]) fun _ _ _ _ _ _ us hl => match us, hl with | [_, _], _ => rfl
  have F__law_trim := fun_mk (st := s__law_trim) l__law_trim c__law_trim k__law_trim
  have b__law_trim := F__law_trim.binds (ps := ["_law_row"]) fun _ _ _ _ _ _ us hl => match us, hl with | [_], _ => rfl
  have F__law_same := fun_mk (st := s__law_same) l__law_same c__law_same k__law_same
  have b__law_same := F__law_same.binds (ps := ["_law_found", "_law_due_here"]) fun _ _ _ _ _ _ us hl => match us, hl with | [_, _], _ => rfl
  have F__law_number := fun_mk (st := s__law_number) l__law_number c__law_number k__law_number
  have b__law_number := F__law_number.binds (ps := ["_law_cell"]) fun _ _ _ _ _ _ us hl => match us, hl with | [_], _ => rfl
  have F__law_drawn := fun_mk (st := s__law_drawn) l__law_drawn c__law_drawn k__law_drawn
  have b__law_drawn := F__law_drawn.binds (ps := ["_law_script", "_law_place", "_law_size", "_law_many"]) fun _ _ _ _ _ _ us hl => match us, hl with | [_, _, _, _], _ => rfl
  have F__law_number_at := fun_mk (st := s__law_number_at) l__law_number_at c__law_number_at k__law_number_at
  have b__law_number_at := F__law_number_at.binds (ps := ["_law_row", "_law_place"]) fun _ _ _ _ _ _ us hl => match us, hl with | [_, _], _ => rfl
  have F__law_due := fun_mk (st := s__law_due) l__law_due c__law_due k__law_due
  have b__law_due := F__law_due.binds (ps := ["_law_ones", "_law_others", "_law_many"]) fun _ _ _ _ _ _ us hl => match us, hl with | [_, _, _], _ => rfl
  have F__law_told := fun_mk (st := s__law_told) l__law_told c__law_told k__law_told
  have b__law_told := F__law_told.binds (ps := ["_law_ones", "_law_others", "_law_many"]) fun _ _ _ _ _ _ us hl => match us, hl with | [_, _, _], _ => rfl
  have F_law := fun_mk (st := s_law) l_law c_law k_law
  have b_law := F_law.binds (ps := ["_law_script"]) fun _ _ _ _ _ _ us hl => match us, hl with | [_], _ => rfl
  let T : Txt K mg := {
    a_trimmed := _, d_trimmed := _, F_trimmed := F_trimmed, m_trimmed := PySem.W.mg_of X G a_trimmed, b_trimmed := b_trimmed,
    a_number_at := _, d_number_at := _, F_number_at := F_number_at, m_number_at := PySem.W.mg_of X G a_number_at, b_number_at := b_number_at,
    a_plus := _, d_plus := _, F_plus := F_plus, m_plus := PySem.W.mg_of X G a_plus, b_plus := b_plus,
    a_minus := _, d_minus := _, F_minus := F_minus, m_minus := PySem.W.mg_of X G a_minus, b_minus := b_minus,
    a_scaled := _, d_scaled := _, F_scaled := F_scaled, m_scaled := PySem.W.mg_of X G a_scaled, b_scaled := b_scaled,
    a__law_whole := _, d__law_whole := _, F__law_whole := F__law_whole, m__law_whole := PySem.W.mg_of X G a__law_whole, b__law_whole := b__law_whole,
    a__law_cell_at := _, d__law_cell_at := _, F__law_cell_at := F__law_cell_at, m__law_cell_at := PySem.W.mg_of X G a__law_cell_at, b__law_cell_at := b__law_cell_at,
    a__law_trim := _, d__law_trim := _, F__law_trim := F__law_trim, m__law_trim := PySem.W.mg_of X G a__law_trim, b__law_trim := b__law_trim,
    a__law_same := _, d__law_same := _, F__law_same := F__law_same, m__law_same := PySem.W.mg_of X G a__law_same, b__law_same := b__law_same,
    a__law_number := _, d__law_number := _, F__law_number := F__law_number, m__law_number := PySem.W.mg_of X G a__law_number, b__law_number := b__law_number,
    a__law_drawn := _, d__law_drawn := _, F__law_drawn := F__law_drawn, m__law_drawn := PySem.W.mg_of X G a__law_drawn, b__law_drawn := b__law_drawn,
    a__law_number_at := _, d__law_number_at := _, F__law_number_at := F__law_number_at, m__law_number_at := PySem.W.mg_of X G a__law_number_at, b__law_number_at := b__law_number_at,
    a__law_due := _, d__law_due := _, F__law_due := F__law_due, m__law_due := PySem.W.mg_of X G a__law_due, b__law_due := b__law_due,
    a__law_told := _, d__law_told := _, F__law_told := F__law_told, m__law_told := PySem.W.mg_of X G a__law_told, b__law_told := b__law_told,
    a_law := _, d_law := _, F_law := F_law, m_law := PySem.W.mg_of X G a_law, b_law := b_law,
    z_bool := PySem.W.mg_none_of X G z_bool, z_int := PySem.W.mg_none_of X G z_int, z_isinstance := PySem.W.mg_none_of X G z_isinstance, z_len := PySem.W.mg_none_of X G z_len, z_list := PySem.W.mg_none_of X G z_list, z_max := PySem.W.mg_none_of X G z_max, z_range := PySem.W.mg_none_of X G z_range }
  exact ⟨_, fun s v => .of_eq rfl, fun base _ _ => ok_law T⟩
end Pa
open PySem PySem.W PyProof.Rows
set_option maxHeartbeats 0 in
theorem PySem.Challenge.cw_polyarith_k02_sums_holds : PySem.Challenge.rw_polyarith_k02_sums.Holds := by
  w_on; o_law; k_head; (case hw => w_witness2)
  k_fill
  refine L2.walk_of (l := PySem.Challenge.rw_polyarith_k02_sums) (n := 63) (k := 4) (x := "_law_script") (CX := fun _ => L2.CX0) (sp := fun w => Pa.sp_law _) rfl (by decide) rfl ⟨rfl, by decide, by decide⟩ (fun w h Y => PySem.W.kIn_of Y) ?F (fun _ _ a ns hl _ hS => ⟨a, ns, rfl, hS, hl, fun _ => rfl⟩) (fun _ _ _ _ _ h => h)
  case F =>
    intro w mg fa h KX G hmg
    refine' Pa.all_mk KX G hmg ?a_trimmed ?l_trimmed ?c_trimmed ?k_trimmed ?a_number_at ?l_number_at ?c_number_at ?k_number_at ?a_plus ?l_plus ?c_plus ?k_plus ?a_minus ?l_minus ?c_minus ?k_minus ?a_scaled ?l_scaled ?c_scaled ?k_scaled ?a__law_whole ?l__law_whole ?c__law_whole ?k__law_whole ?a__law_cell_at ?l__law_cell_at ?c__law_cell_at ?k__law_cell_at ?a__law_trim ?l__law_trim ?c__law_trim ?k__law_trim ?a__law_same ?l__law_same ?c__law_same ?k__law_same ?a__law_number ?l__law_number ?c__law_number ?k__law_number ?a__law_drawn ?l__law_drawn ?c__law_drawn ?k__law_drawn ?a__law_number_at ?l__law_number_at ?c__law_number_at ?k__law_number_at ?a__law_due ?l__law_due ?c__law_due ?k__law_due ?a__law_told ?l__law_told ?c__law_told ?k__law_told ?a_law ?l_law ?c_law ?k_law ?z_bool ?z_int ?z_isinstance ?z_len ?z_list ?z_max ?z_range
    (case a_trimmed => k_is)
    (case l_trimmed => k_is)
    (case c_trimmed => k_is)
    (case k_trimmed => k_is)
    (case a_number_at => k_is)
    (case l_number_at => k_is)
    (case c_number_at => k_is)
    (case k_number_at => k_is)
    (case a_plus => k_is)
    (case l_plus => k_is)
    (case c_plus => k_is)
    (case k_plus => k_is)
    (case a_minus => k_is)
    (case l_minus => k_is)
    (case c_minus => k_is)
    (case k_minus => k_is)
    (case a_scaled => k_is)
    (case l_scaled => k_is)
    (case c_scaled => k_is)
    (case k_scaled => k_is)
    (case a__law_whole => k_is)
    (case l__law_whole => k_is)
    (case c__law_whole => k_is)
    (case k__law_whole => k_is)
    (case a__law_cell_at => k_is)
    (case l__law_cell_at => k_is)
    (case c__law_cell_at => k_is)
    (case k__law_cell_at => k_is)
    (case a__law_trim => k_is)
    (case l__law_trim => k_is)
    (case c__law_trim => k_is)
    (case k__law_trim => k_is)
    (case a__law_same => k_is)
    (case l__law_same => k_is)
    (case c__law_same => k_is)
    (case k__law_same => k_is)
    (case a__law_number => k_is)
    (case l__law_number => k_is)
    (case c__law_number => k_is)
    (case k__law_number => k_is)
    (case a__law_drawn => k_is)
    (case l__law_drawn => k_is)
    (case c__law_drawn => k_is)
    (case k__law_drawn => k_is)
    (case a__law_number_at => k_is)
    (case l__law_number_at => k_is)
    (case c__law_number_at => k_is)
    (case k__law_number_at => k_is)
    (case a__law_due => k_is)
    (case l__law_due => k_is)
    (case c__law_due => k_is)
    (case k__law_due => k_is)
    (case a__law_told => k_is)
    (case l__law_told => k_is)
    (case c__law_told => k_is)
    (case k__law_told => k_is)
    (case a_law => k_is)
    (case l_law => k_is)
    (case c_law => k_is)
    (case k_law => k_is)
    (case z_bool => k_is)
    (case z_int => k_is)
    (case z_isinstance => k_is)
    (case z_len => k_is)
    (case z_list => k_is)
    (case z_max => k_is)
    (case z_range => k_is)
