import PyProof.Rows.All
import Wide.All
import OpenK.AllK
import Wide.FinOn
import HandS.ForMost
import HandS.Exc
import HandS.TryOnly
import HandS.ExcOwn
import HandS.WordsExc
import HandS.TryMany
import HandS.Wide
import HandS.Rev
import HandS.IsInst
import HandS.ExcIs
import HandS.Deep
import HandS.Codes
import HandS.Replace
import HandS.Walk
import HandS.Iter
import HandS.Steps
import HandS.ReplaceLit
import HandS.ReplaceDef
import HandS.ReplaceList
import PyProof.StrReplace2
import PySem.Challenge.RW_polyarith_k11_read
set_option Elab.async false
set_option linter.all false
set_option maxRecDepth 100000
set_option maxHeartbeats 4000000
set_option exponentiation.threshold 10000
namespace Pa
open PySem PySem.Spec PyProof.Rows L2
abbrev St := L2.St

/-! ### owned objects over a heap -/
abbrev Fs := List (Addr × HO)
def Kn (H0 : Hp) : Fs → Hp → Prop
  | [], H => Same H0 H
  | x :: fs, H => H x.1 = some x.2 ∧ ∃ H1, Same H1 H ∧ H1 x.1 = none ∧ Kn H0 fs H1
theorem Kn.same {H0 : Hp} : ∀ {fs : Fs} {H : Hp}, Kn H0 fs H → Same H0 H
  | [], _, h => h
  | _ :: _, _, ⟨_, _, s, _, k⟩ => (Kn.same k).trans s
theorem Kn.ext {H0 : Hp} : ∀ {fs : Fs} {H H' : Hp}, Kn H0 fs H → Same H H' → Kn H0 fs H'
  | [], _, _, h, s => Same.trans h s
  | _ :: _, _, _, ⟨e, H1, s1, n, k⟩, s => ⟨s _ _ e, H1, s1.trans s, n, k⟩
theorem same_upd {H : Hp} {p : Addr} {o : HO} (h : H p = none) : Same H (upd H p o) := fun b x e => by
  rw [upd_ne (ne_of_none e h)]
  exact e
theorem Kn.new {H0 H : Hp} {fs : Fs} {p : Addr} {o : HO} (k : Kn H0 fs H) (h : H p = none) : Kn H0 ((p, o) :: fs) (upd H p o) :=
  ⟨upd_same, H, same_upd h, h, k⟩
theorem Kn.get {H0 : Hp} : ∀ {fs : Fs} {H : Hp} {p : Addr} {o : HO}, Kn H0 fs H → (p, o) ∈ fs → H p = some o
  | _ :: _, _, _, _, ⟨e, _⟩, .head _ => e
  | _ :: _, _, _, _, ⟨_, _, s, _, k⟩, .tail _ m => s _ _ (Kn.get k m)
theorem Kn.fresh {H0 H : Hp} {fs : Fs} {p : Addr} (k : Kn H0 fs H) (h : H p = none) : H0 p = none := k.same.free h
theorem Kn.out {H0 : Hp} : ∀ {fs : Fs} {H : Hp} {p : Addr} {o : HO}, Kn H0 fs H → (p, o) ∈ fs → H0 p = none
  | _ :: _, _, _, _, ⟨_, _, _, n, k⟩, .head _ => k.same.free n
  | _ :: _, _, _, _, ⟨_, _, _, _, k⟩, .tail _ m => Kn.out k m
theorem Kn.put {H0 : Hp} : ∀ {fs : Fs} {H : Hp} {i : Nat} {p : Addr} {o o' : HO}, Kn H0 fs H → fs[i]? = some (p, o) → Kn H0 (fs.set i (p, o')) (upd H p o')
  | [], _, _, _, _, _, _, h => by simp at h
  | x :: fs, H, 0, p, o, o', ⟨e, H1, s, n, k⟩, h => by
    have ex : x = (p, o) := Option.some.inj h
    subst ex
    exact ⟨upd_same, H1, fun b u q => by rw [upd_ne (ne_of_none q n)]; exact s _ _ q, n, k⟩
  | x :: fs, H, i + 1, p, o, o', ⟨e, H1, s, n, k⟩, h => by
    have h' : fs[i]? = some (p, o) := by simpa using h
    have hp : H1 p = some o := k.get (List.mem_of_getElem? h')
    have ne : x.1 ≠ p := fun z => by rw [z, hp] at n; cases n
    refine ⟨by rw [upd_ne ne]; exact e, upd H1 p o', fun b u q => ?_, by rw [upd_ne ne]; exact n, Kn.put k h'⟩
    by_cases hb : b = p
    · subst hb; rw [upd_same] at q ⊢; exact q
    · rw [upd_ne hb] at q ⊢; exact s _ _ q
theorem Kn.app {H0 H : Hp} {fs : Fs} (k : Kn H0 fs H) : ∀ {fs' : Fs} {H' : Hp}, Kn H fs' H' → Kn H0 (fs' ++ fs) H'
  | [], _, k' => k.ext k'
  | _ :: _, _, ⟨e, H1, s, n, k'⟩ => ⟨e, H1, s, n, Kn.app k k'⟩
theorem Kn.drop {H0 H : Hp} {x : Addr × HO} {fs : Fs} (k : Kn H0 (x :: fs) H) : Kn H0 fs H := by
  obtain ⟨_, H1, s, _, k⟩ := k
  exact k.ext s
theorem Kn.sub {H0 : Hp} : ∀ {fs fs' : Fs} {H : Hp}, List.Sublist fs' fs → Kn H0 fs H → Kn H0 fs' H
  | _, _, _, .slnil, k => k
  | _, _, _, .cons _ s, k => Kn.sub s k.drop
  | _, _, _, .cons_cons _ s, ⟨e, H1, t, n, k⟩ => ⟨e, H1, t, n, Kn.sub s k⟩
/-- seen from a later heap -/
theorem Kn.ne {H0 : Hp} {x : Addr × HO} {fs : Fs} {H : Hp} {p : Addr} {o : HO} (k : Kn H0 (x :: fs) H) (m : (p, o) ∈ fs) : x.1 ≠ p := by
  obtain ⟨_, H1, _, n, k⟩ := k
  intro e
  rw [e, k.get m] at n
  cases n
theorem Kn.swap {H0 : Hp} {x y : Addr × HO} {fs : Fs} {H : Hp} (k : Kn H0 (x :: y :: fs) H) : Kn H0 (y :: x :: fs) H := by
  obtain ⟨ex, H1, s1, n1, ey, H2, s2, n2, k⟩ := k
  have ne : x.1 ≠ y.1 := fun z => by rw [z, ey] at n1; cases n1
  have hx2 : H2 x.1 = none := s2.free n1
  refine ⟨s1 _ _ ey, upd H2 x.1 x.2, fun b u q => ?_, ?_, upd_same, H2, same_upd hx2, hx2, k⟩
  · by_cases hb : b = x.1
    · subst hb; rw [upd_same] at q; cases q; exact ex
    · rw [upd_ne hb] at q; exact s1 _ _ (s2 _ _ q)
  · rw [upd_ne (Ne.symm ne)]; exact n2

/-! ### what may be read -/
def Rl (K : PySem.W.Frag) (H0 : Hp) (fs : Fs) (a : Addr) (xs : List V) : Prop := ∀ H, Kn H0 fs H → SqL K H a xs
def Rt (K : PySem.W.Frag) (H0 : Hp) (fs : Fs) (a : Addr) (xs : List V) : Prop := ∀ H, Kn H0 fs H → SqT K H a xs
/-- an exact object -/
def Rx (H0 : Hp) (fs : Fs) (a : Addr) (o : HO) : Prop := ∀ H, Kn H0 fs H → H a = some o
section
variable {K : PySem.W.Frag} {H0 : Hp} {fs fs' : Fs} {a : Addr} {xs : List V} {o : HO}
theorem Rx.own (m : (a, o) ∈ fs) : Rx H0 fs a o := fun _ k => k.get m
theorem Rx.arg (h : H0 a = some o) : Rx H0 fs a o := fun _ k => k.same _ _ h
theorem Rl.x (h : Rx H0 fs a (.lst xs)) : Rl K H0 fs a xs := fun H k => SqL.of (h H k)
theorem Rl.sq (h : SqL K H0 a xs) : Rl K H0 fs a xs := fun _ k => k.same.seq h
theorem Rt.x (h : Rx H0 fs a (.tup xs)) : Rt K H0 fs a xs := fun H k => SqT.of (h H k)
end

/-! ### zV -/
def zV (ns : List Int) : List V := ns.map V.int
theorem zV_length (ns : List Int) : (zV ns).length = ns.length := List.length_map _
theorem zV_get {ns : List Int} {i : Nat} {x : Int} (h : ns[i]? = some x) : (zV ns)[i]? = some (.int x) := by
  unfold zV
  rw [List.getElem?_map, h]; rfl
/-- the number at a place -/
def gat (ns : List Int) (i : Int) : Int := ns.getD i.toNat 0
theorem gat_nat (ns : List Int) (i : Nat) : gat ns (i : Int) = ns.getD i 0 := by unfold gat; simp
theorem atI_zV {ns : List Int} {i : Int} (h0 : 0 ≤ i) (h1 : i < (ns.length : Int)) : atI (zV ns) i = some (.int (gat ns i)) := by
  obtain ⟨k, rfl⟩ := Int.eq_ofNat_of_zero_le h0
  have hk : k < ns.length := by omega
  refine atI_nat (zV_get ?_)
  rw [gat_nat, List.getD_eq_getElem?_getD, List.getElem?_eq_getElem hk]; rfl
theorem ixN_nat {n j : Nat} (hj : j < n) : ixN n (j : Int) = some j := by
  unfold ixN
  rw [if_pos (by omega), if_pos (by omega)]
  simp
theorem ixN_int {n : Nat} {i : Int} (h0 : 0 ≤ i) (h1 : i < (n : Int)) : ixN n i = some i.toNat := by
  unfold ixN
  rw [if_pos h0, if_pos h1]
theorem zV_set (ns : List Int) (i : Nat) (x : Int) : (zV ns).set i (.int x) = zV (ns.set i x) := by
  unfold zV; rw [List.map_set]
theorem zV_app (ns ms : List Int) : zV ns ++ zV ms = zV (ns ++ ms) := by
  unfold zV; rw [List.map_append]
theorem atI_lastI {ns : List Int} (h : ns ≠ []) : atI (zV ns) (-1) = some (.int (ns.getLast h)) := by
  have e : zV ns = zV ns.dropLast ++ [.int (ns.getLast h)] := by
    have := zV_app ns.dropLast [ns.getLast h]
    rw [List.dropLast_concat_getLast] at this
    exact this.symm
  rw [e]; exact atI_last _ _
theorem sz_le {n : Nat} (h : n ≤ 1000000) : n ≤ sizeLine := Nat.le_trans h (by decide)
theorem sz_lt {n : Nat} (h : n < 1000000) : n < sizeLine := Nat.lt_of_lt_of_le h (by decide)
end Pa

namespace Pa
open PySem PySem.Spec PyProof.Rows L2

/-! ### readings over owned objects -/
abbrev CV := V → Fs → Prop
def W (te : TE) (σ : St) (H0 : Hp) (fs : Fs) (Φ : CV) : Prop := ∀ H, Kn H0 fs H → ∀ Q : VK, (∀ v fs' H', Kn H0 fs' H' → Φ v fs' → Q v H') → te σ H Q
def WT (tt : TT) (σ : St) (H0 : Hp) (fs : Fs) (Φ : Bool → Fs → Prop) : Prop := ∀ H, Kn H0 fs H → ∀ Q : Bool → Hp → Prop, (∀ v fs' H', Kn H0 fs' H' → Φ v fs' → Q v H') → tt σ H Q
def WA (ta : TA) (σ : St) (H0 : Hp) (fs : Fs) (Φ : List V → Fs → Prop) : Prop := ∀ H, Kn H0 fs H → ∀ Q : List V → Hp → Prop, (∀ v fs' H', Kn H0 fs' H' → Φ v fs' → Q v H') → ta σ H Q
def WO (tn : TO) (σ : St) (H0 : Hp) (fs : Fs) (Φ : Option Int → Fs → Prop) : Prop := ∀ H, Kn H0 fs H → ∀ Q : Option Int → Hp → Prop, (∀ v fs' H', Kn H0 fs' H' → Φ v fs' → Q v H') → tn σ H Q
/-- an operation on two values, a call on values -/
def RW (r : R2) (x y : V) (H0 : Hp) (fs : Fs) (Φ : CV) : Prop := ∀ H, Kn H0 fs H → ∀ Q : VK, (∀ v fs' H', Kn H0 fs' H' → Φ v fs' → Q v H') → r x y H Q
def RU (r : V → Hp → VK → Prop) (x : V) (H0 : Hp) (fs : Fs) (Φ : CV) : Prop := ∀ H, Kn H0 fs H → ∀ Q : VK, (∀ v fs' H', Kn H0 fs' H' → Φ v fs' → Q v H') → r x H Q
def RC (r : List V → Hp → VK → Prop) (vs : List V) (H0 : Hp) (fs : Fs) (Φ : CV) : Prop := ∀ H, Kn H0 fs H → ∀ Q : VK, (∀ v fs' H', Kn H0 fs' H' → Φ v fs' → Q v H') → r vs H Q
def RM (r : V → List V → Hp → VK → Prop) (x : V) (vs : List V) (H0 : Hp) (fs : Fs) (Φ : CV) : Prop := ∀ H, Kn H0 fs H → ∀ Q : VK, (∀ v fs' H', Kn H0 fs' H' → Φ v fs' → Q v H') → r x vs H Q
def RS (r : V → Option Int → Option Int → Hp → VK → Prop) (x : V) (lo hi : Option Int) (H0 : Hp) (fs : Fs) (Φ : CV) : Prop := ∀ H, Kn H0 fs H → ∀ Q : VK, (∀ v fs' H', Kn H0 fs' H' → Φ v fs' → Q v H') → r x lo hi H Q
/-- a call's promise -/
def WC (sp : Sp) (vs : List V) (H0 : Hp) (fs : Fs) (Φ : CV) : Prop := ∀ H, Kn H0 fs H → ∀ (Q : VK) (E : XK), (∀ v fs' H', Kn H0 fs' H' → Φ v fs' → Q v H') → sp vs H Q E
/-- statements: what must hold behind -/
def N (e : St → Hp → Prop) (σ : St) (H0 : Hp) (fs : Fs) : Prop := ∀ H, Kn H0 fs H → e σ H
/-- a value handed back -/
def NR (Q : VK) (v : V) (H0 : Hp) (fs : Fs) : Prop := ∀ H, Kn H0 fs H → Q v H

section
variable {σ : St} {H0 : Hp} {fs : Fs} {Φ : CV} {ta tb tc te : TE} {t u : TT} {i : Nat} {v x y : V} {r r' : R2} {K : PySem.W.Frag} {tr : TA} {ΦT : Bool → Fs → Prop} {ΦA : List V → Fs → Prop}

theorem W.var (h : σ[i]? = some (some v)) (q : Φ v fs) : W (tVar i) σ H0 fs Φ := fun H k _ c => ⟨v, h, c v fs H k q⟩
theorem W.c (q : Φ v fs) : W (tC v) σ H0 fs Φ := fun H k _ c => c v fs H k q
theorem W.op (h : W ta σ H0 fs fun x f1 => W tb σ H0 f1 fun y f2 => RW r x y H0 f2 Φ) : W (tOp r ta tb) σ H0 fs Φ := fun H k Q c =>
  h H k _ fun _ _ H1 k1 h1 => h1 H1 k1 _ fun _ _ H2 k2 h2 => h2 H2 k2 Q c
theorem W.un {r : V → Hp → VK → Prop} (h : W ta σ H0 fs fun x f1 => RU r x H0 f1 Φ) : W (tUn r ta) σ H0 fs Φ := fun H k Q c =>
  h H k _ fun _ _ H1 k1 h1 => h1 H1 k1 Q c
theorem RW.i0 {g : Int → Int → V} {i j : Int} (q : Φ (g i j) fs) : RW (rI0 g) (.int i) (.int j) H0 fs Φ := fun H k _ c => ⟨i, j, rfl, rfl, c _ fs H k q⟩
theorem RW.i1 {C : Int → Int → Prop} {g : Int → Int → V} {i j : Int} (hc : C i j) (q : Φ (g i j) fs) : RW (rI C g) (.int i) (.int j) H0 fs Φ := fun H k _ c => ⟨i, j, rfl, rfl, hc, c _ fs H k q⟩
theorem RU.int {g : Int → V} {i : Int} (q : Φ (g i) fs) : RU (rU g) (.int i) H0 fs Φ := fun H k _ c => ⟨i, rfl, c _ fs H k q⟩
theorem RW.eqI {i j : Int} (q : Φ (.bl (decide (i = j))) fs) : RW rEq (.int i) (.int j) H0 fs Φ := fun H k Q c => ⟨rfl, by
  have e : decide (V.int i = V.int j) = decide (i = j) := by rw [dec_int, Bool.beq_eq_decide_eq]
  rw [e]; exact c _ fs H k q⟩
theorem RW.neI {i j : Int} (q : Φ (.bl (!decide (i = j))) fs) : RW rNe (.int i) (.int j) H0 fs Φ := fun H k Q c => ⟨rfl, by
  have e : decide (V.int i = V.int j) = decide (i = j) := by rw [dec_int, Bool.beq_eq_decide_eq]
  rw [e]; exact c _ fs H k q⟩
theorem RW.eqS {i j : Str} (q : Φ (.bl (decide (i = j))) fs) : RW rEq (.str i) (.str j) H0 fs Φ := fun H k Q c => ⟨rfl, by
  have e : decide (V.str i = V.str j) = decide (i = j) := by rw [dec_str, Bool.beq_eq_decide_eq]
  rw [e]; exact c _ fs H k q⟩
theorem RW.neS {i j : Str} (q : Φ (.bl (!decide (i = j))) fs) : RW rNe (.str i) (.str j) H0 fs Φ := fun H k Q c => ⟨rfl, by
  have e : decide (V.str i = V.str j) = decide (i = j) := by rw [dec_str, Bool.beq_eq_decide_eq]
  rw [e]; exact c _ fs H k q⟩

/-! ### arguments, displays -/
theorem WA.nil (q : ΦA [] fs) : WA tNil σ H0 fs ΦA := fun H k _ c => c [] fs H k q
theorem WA.cons (h : W ta σ H0 fs fun x f1 => WA tr σ H0 f1 fun xs f2 => ΦA (x :: xs) f2) : WA (tCons ta tr) σ H0 fs ΦA := fun H k Q c =>
  h H k _ fun _ _ H1 k1 h1 => h1 H1 k1 _ fun _ _ H2 k2 h2 => c _ _ H2 k2 h2
theorem W.lst (h : WA tr σ H0 fs fun vs f1 => vs.length ≤ 1000000 ∧ ∀ p, Φ (.ref p) ((p, .lst vs) :: f1)) : W (tLst tr) σ H0 fs Φ := fun H k Q c =>
  h H k _ fun _ _ H1 k1 h1 => ⟨sz_le h1.1, fun p hp => c _ _ _ (k1.new hp) (h1.2 p)⟩
theorem W.tup (h : WA tr σ H0 fs fun vs f1 => vs.length ≤ 1000000 ∧ ∀ p, Φ (.ref p) ((p, .tup vs) :: f1)) : W (tTup tr) σ H0 fs Φ := fun H k Q c =>
  h H k _ fun _ _ H1 k1 h1 => ⟨sz_le h1.1, fun p hp => c _ _ _ (k1.new hp) (h1.2 p)⟩
theorem W.cb {r : List V → Hp → VK → Prop} (h : WA tr σ H0 fs fun vs f1 => RC r vs H0 f1 Φ) : W (tCB r tr) σ H0 fs Φ := fun H k Q c =>
  h H k _ fun _ _ H1 k1 h1 => h1 H1 k1 Q c
theorem W.call {sp : Sp} {E : XK} (h : WA tr σ H0 fs fun vs f1 => WC sp vs H0 f1 Φ) : W (tCall sp [] E tr) σ H0 fs Φ := fun H k Q c =>
  h H k _ fun vs _ H1 k1 h1 => by rw [List.append_nil]; exact h1 H1 k1 Q E c

/-! ### built-ins -/
def rLen (K : PySem.W.Frag) : List V → Hp → VK → Prop := fun xs H Q => ∃ p ys, xs = [.ref p] ∧ (SqL K H p ys ∨ SqT K H p ys) ∧ Q (.int ys.length) H
def rLenS : List V → Hp → VK → Prop := fun xs H Q => ∃ z, xs = [.str z] ∧ z.length ≤ sizeLine ∧ Q (.int z.length) H
def rAbs : List V → Hp → VK → Prop := fun xs H Q => ∃ i, xs = [.int i] ∧ Q (.int (if i < 0 then -i else i)) H
def rMax2 : List V → Hp → VK → Prop := fun xs H Q => ∃ i j, xs = [.int i, .int j] ∧ Q (.int (if j > i then j else i)) H
def rMin2 : List V → Hp → VK → Prop := fun xs H Q => ∃ i j, xs = [.int i, .int j] ∧ Q (.int (if j < i then j else i)) H
def rListOf (K : PySem.W.Frag) : List V → Hp → VK → Prop := fun xs H Q => ∃ p ys, xs = [.ref p] ∧ (SqL K H p ys ∨ SqT K H p ys) ∧ ∀ l, H l = none → Q (.ref l) (upd H l (.lst ys))
def rTupOf (K : PySem.W.Frag) : List V → Hp → VK → Prop := fun xs H Q => ∃ p ys, xs = [.ref p] ∧ ((SqL K H p ys ∧ ∀ l, H l = none → Q (.ref l) (upd H l (.tup ys))) ∨ (SqT K H p ys ∧ Q (.ref p) H))
section
variable {X : Cx}
theorem cLen : CallR X (.builtin "len") (rLen X.K) := call_len_seq
theorem cLenS : CallR X (.builtin "len") rLenS := call_len_str
theorem cAbs : CallR X (.builtin "abs") rAbs := call_abs
theorem cMax2 (hc : X.calm = true) : CallR X (.builtin "max") rMax2 := call_max2 hc
theorem cMin2 (hc : X.calm = true) : CallR X (.builtin "min") rMin2 := call_min2 hc
theorem cListOf : CallR X (.type "list") (rListOf X.K) := call_list_of
theorem cTupOf : CallR X (.type "tuple") (rTupOf X.K) := call_tuple_of
end
theorem RC.len {p : Addr} {xs : List V} (h : Rl K H0 fs p xs) (q : Φ (.int xs.length) fs) : RC (rLen K) [.ref p] H0 fs Φ := fun H k _ c => ⟨p, xs, rfl, .inl (h H k), c _ fs H k q⟩
theorem RC.lenT {p : Addr} {xs : List V} (h : Rt K H0 fs p xs) (q : Φ (.int xs.length) fs) : RC (rLen K) [.ref p] H0 fs Φ := fun H k _ c => ⟨p, xs, rfl, .inr (h H k), c _ fs H k q⟩
theorem RC.lenZ {p : Addr} {ns : List Int} (h : Rl K H0 fs p (zV ns)) (q : Φ (.int ns.length) fs) : RC (rLen K) [.ref p] H0 fs Φ := RC.len h (by rw [zV_length]; exact q)
theorem RC.lenS {z : Str} (h : z.length ≤ 1000000) (q : Φ (.int z.length) fs) : RC rLenS [.str z] H0 fs Φ := fun H k _ c => ⟨z, rfl, sz_le h, c _ fs H k q⟩
theorem RC.abs {i : Int} (q : Φ (.int (i.natAbs : Int)) fs) : RC rAbs [.int i] H0 fs Φ := fun H k _ c => ⟨i, rfl, by
  have e : (if i < 0 then -i else i) = (i.natAbs : Int) := by split <;> omega
  rw [e]; exact c _ fs H k q⟩
theorem RC.max2 {i j : Int} (q : Φ (.int (max i j)) fs) : RC rMax2 [.int i, .int j] H0 fs Φ := fun H k _ c => ⟨i, j, rfl, by
  have e : (if j > i then j else i) = max i j := by split <;> omega
  rw [e]; exact c _ fs H k q⟩
theorem RC.min2 {i j : Int} (q : Φ (.int (min i j)) fs) : RC rMin2 [.int i, .int j] H0 fs Φ := fun H k _ c => ⟨i, j, rfl, by
  have e : (if j < i then j else i) = min i j := by split <;> omega
  rw [e]; exact c _ fs H k q⟩
theorem RC.listL {p : Addr} {xs : List V} (h : Rl K H0 fs p xs) (q : ∀ l, Φ (.ref l) ((l, .lst xs) :: fs)) : RC (rListOf K) [.ref p] H0 fs Φ := fun H k _ c => ⟨p, xs, rfl, .inl (h H k), fun l hl => c _ _ _ (k.new hl) (q l)⟩
theorem RC.listT {p : Addr} {xs : List V} (h : Rt K H0 fs p xs) (q : ∀ l, Φ (.ref l) ((l, .lst xs) :: fs)) : RC (rListOf K) [.ref p] H0 fs Φ := fun H k _ c => ⟨p, xs, rfl, .inr (h H k), fun l hl => c _ _ _ (k.new hl) (q l)⟩
theorem RC.tupL {p : Addr} {xs : List V} (h : Rl K H0 fs p xs) (q : ∀ l, Φ (.ref l) ((l, .tup xs) :: fs)) : RC (rTupOf K) [.ref p] H0 fs Φ := fun H k _ c => ⟨p, xs, rfl, .inl ⟨h H k, fun l hl => c _ _ _ (k.new hl) (q l)⟩⟩
/-- isinstance -/
theorem RC.isi {x : V} {n : String} {t : Value} {b : Bool} (ht : ∀ H, Kn H0 fs H → TyX K H x t) (hk : PySem.W.kitOne K t (.type n) = some b) (q : Φ (.bl b) fs) : RC (rIsi K) [x, .ty n] H0 fs Φ := fun H k _ c =>
  ⟨x, .ty n, t, .type n, b, rfl, .ty n, ht H k, hk, c _ fs H k q⟩

/-! ### items, slices -/
theorem RW.ixZ {p : Addr} {ns : List Int} {i : Int} (h : Rl K H0 fs p (zV ns)) (hi : 0 ≤ i ∧ i < (ns.length : Int)) (q : Φ (.int (gat ns i)) fs) : RW (rIxL K) (.ref p) (.int i) H0 fs Φ := fun H k _ c =>
  ⟨p, _, i, _, rfl, rfl, h H k, atI_zV hi.1 hi.2, c _ fs H k q⟩
theorem RW.ixL {p : Addr} {xs : List V} {i : Int} (h : Rl K H0 fs p xs) (hi : atI xs i = some v) (q : Φ v fs) : RW (rIxL K) (.ref p) (.int i) H0 fs Φ := fun H k _ c =>
  ⟨p, _, i, _, rfl, rfl, h H k, hi, c _ fs H k q⟩
theorem RW.ixT {p : Addr} {xs : List V} {i : Int} (h : Rt K H0 fs p xs) (hi : atI xs i = some v) (q : Φ v fs) : RW (rIxT K) (.ref p) (.int i) H0 fs Φ := fun H k _ c =>
  ⟨p, _, i, _, rfl, rfl, h H k, hi, c _ fs H k q⟩
theorem WO.no {Φo : Option Int → Fs → Prop} (q : Φo Option.none fs) : WO tNoPart σ H0 fs Φo := fun H k _ c => c Option.none fs H k q
theorem WO.part {Φo : Option Int → Fs → Prop} (h : W te σ H0 fs fun x f1 => ∃ i, x = .int i ∧ Φo (some i) f1) : WO (tPart te) σ H0 fs Φo := fun H k _ c =>
  h H k _ fun _ _ H1 k1 ⟨i, e, q⟩ => ⟨i, e, c _ _ H1 k1 q⟩
theorem W.sl {r : V → Option Int → Option Int → Hp → VK → Prop} {tl th : TO} (h : W te σ H0 fs fun x f1 => WO tl σ H0 f1 fun lo f2 => WO th σ H0 f2 fun hi f3 => RS r x lo hi H0 f3 Φ) : W (tSl r te tl th) σ H0 fs Φ := fun H k Q c =>
  h H k _ fun _ _ H1 k1 h1 => h1 H1 k1 _ fun _ _ H2 k2 h2 => h2 H2 k2 _ fun _ _ H3 k3 h3 => h3 H3 k3 Q c
theorem RS.l {p : Addr} {xs : List V} {lo hi : Option Int} (h : Rl K H0 fs p xs) (q : ∀ l, Φ (.ref l) ((l, .lst (cutV xs lo hi)) :: fs)) : RS (rSlL K) (.ref p) lo hi H0 fs Φ := fun H k _ c =>
  ⟨p, xs, rfl, h H k, fun l hl => c _ _ _ (k.new hl) (q l)⟩
theorem cut_take {ns : List Int} {i : Int} (h : 0 ≤ i) : cutV (zV ns) none (some i) = zV (ns.take i.toNat) := by
  obtain ⟨k, rfl⟩ := Int.eq_ofNat_of_zero_le h
  unfold cutV
  rw [HT.sIx_nat, HT.sIx_none, zV_length, List.drop_zero, Nat.sub_zero]
  unfold zV
  rw [List.map_take]
  have e : ((k : Int)).toNat = k := by simp
  rw [e]
  by_cases hk : k ≤ ns.length
  · rw [Nat.min_eq_left hk]
  · rw [Nat.min_eq_right (by omega), List.take_of_length_le (by simp), List.take_of_length_le (by simp; omega)]
theorem cut_drop {ns : List Int} {i : Int} (h : 0 ≤ i) : cutV (zV ns) (some i) none = zV (ns.drop i.toNat) := by
  obtain ⟨k, rfl⟩ := Int.eq_ofNat_of_zero_le h
  unfold cutV
  rw [HT.sIx_nat, HT.sIx_none, zV_length]
  unfold zV
  rw [List.map_drop]
  have e : ((k : Int)).toNat = k := by simp
  rw [e]
  by_cases hk : k ≤ ns.length
  · rw [Nat.min_eq_left hk, List.take_of_length_le (by simp)]
  · rw [Nat.min_eq_right (by omega), List.drop_of_length_le (by simp), List.drop_of_length_le (by simp; omega)]
    exact List.take_nil
theorem RS.take {p : Addr} {ns : List Int} {i : Int} (h : Rl K H0 fs p (zV ns)) (hi : 0 ≤ i) (q : ∀ l, Φ (.ref l) ((l, .lst (zV (ns.take i.toNat))) :: fs)) : RS (rSlL K) (.ref p) none (some i) H0 fs Φ := RS.l h (by rw [cut_take hi]; exact q)
theorem RS.drop {p : Addr} {ns : List Int} {i : Int} (h : Rl K H0 fs p (zV ns)) (hi : 0 ≤ i) (q : ∀ l, Φ (.ref l) ((l, .lst (zV (ns.drop i.toNat))) :: fs)) : RS (rSlL K) (.ref p) (some i) none H0 fs Φ := RS.l h (by rw [cut_drop hi]; exact q)

/-! ### lists joined, repeated -/
theorem RW.cat {p q : Addr} {xs ys : List V} (h1 : Rx H0 fs p (.lst xs)) (h2 : Rx H0 fs q (.lst ys)) (hl : xs.length + ys.length ≤ 1000000) (c : ∀ l, Φ (.ref l) ((l, .lst (xs ++ ys)) :: fs)) : RW rCat (.ref p) (.ref q) H0 fs Φ := fun H k _ cc =>
  ⟨p, q, xs, ys, rfl, rfl, h1 H k, h2 H k, sz_le hl, fun l hl => cc _ _ _ (k.new hl) (c l)⟩
theorem RW.catZ {p q : Addr} {xs ys : List Int} (h1 : Rx H0 fs p (.lst (zV xs))) (h2 : Rx H0 fs q (.lst (zV ys))) (hl : xs.length + ys.length ≤ 1000000) (c : ∀ l, Φ (.ref l) ((l, .lst (zV (xs ++ ys))) :: fs)) : RW rCat (.ref p) (.ref q) H0 fs Φ :=
  RW.cat h1 h2 (by rw [zV_length, zV_length]; exact hl) (by rw [zV_app]; exact c)
theorem flat_rep (x : Int) : ∀ k : Nat, (List.replicate k (zV [x])).flatten = zV (List.replicate k x)
  | 0 => rfl
  | k + 1 => by
    rw [List.replicate_succ, List.flatten_cons, flat_rep x k, List.replicate_succ]; rfl
theorem RW.rep {p : Addr} {x k : Int} (h1 : Rx H0 fs p (.lst (zV [x]))) (hk : k ≤ 1000000 ∧ -1000000 ≤ k) (c : ∀ l, Φ (.ref l) ((l, .lst (zV (List.replicate k.toNat x))) :: fs)) : RW rRep (.ref p) (.int k) H0 fs Φ := fun H kn _ cc => by
  refine ⟨p, k, zV [x], rfl, rfl, h1 H kn, by omega, by omega, sz_le (by show 1 * k.toNat ≤ _; omega), fun l hl => ?_⟩
  rw [flat_rep]
  exact cc _ _ _ (kn.new hl) (c l)

/-! ### tests -/
theorem WT.test (h : W te σ H0 fs fun x f1 => ∃ b, x = .bl b ∧ ΦT b f1) : WT (tTest te) σ H0 fs ΦT := fun H k _ c =>
  h H k _ fun _ _ H1 k1 ⟨b, e, q⟩ => ⟨b, e, c _ _ H1 k1 q⟩
theorem WT.b (h : W te σ H0 fs fun x f1 => ∃ b, x = .bl b ∧ ΦT b f1) : WT (tB te) σ H0 fs ΦT := fun H k _ c =>
  h H k _ fun _ _ H1 k1 ⟨b, e, q⟩ => ⟨b, e, c _ _ H1 k1 q⟩
theorem WT.not (h : WT t σ H0 fs fun b f1 => ΦT (!b) f1) : WT (tNot t) σ H0 fs ΦT := fun H k _ c => h H k _ fun _ _ H1 k1 q => c _ _ H1 k1 q
theorem WT.and (h : WT t σ H0 fs fun b f1 => (b = true → WT u σ H0 f1 ΦT) ∧ (b = false → ΦT false f1)) : WT (tAnd t u) σ H0 fs ΦT := fun H k _ c =>
  h H k _ fun b _ H1 k1 q => by
    cases b with
    | true => exact (q.1 rfl) H1 k1 _ c
    | false => exact c _ _ H1 k1 (q.2 rfl)
theorem WT.or (h : WT t σ H0 fs fun b f1 => (b = true → ΦT true f1) ∧ (b = false → WT u σ H0 f1 ΦT)) : WT (tOr t u) σ H0 fs ΦT := fun H k _ c =>
  h H k _ fun b _ H1 k1 q => by
    cases b with
    | true => exact c _ _ H1 k1 (q.1 rfl)
    | false => exact (q.2 rfl) H1 k1 _ c
theorem W.andV (h : W ta σ H0 fs fun x f1 => ∃ b, x = .bl b ∧ (b = true → W tb σ H0 f1 Φ) ∧ (b = false → Φ (.bl false) f1)) : W (tAndV ta tb) σ H0 fs Φ := fun H k _ c =>
  h H k _ fun _ _ H1 k1 ⟨b, e, q⟩ => ⟨b, e, by
    cases b with
    | true => exact (q.1 rfl) H1 k1 _ c
    | false => exact c _ _ H1 k1 (q.2 rfl)⟩
theorem W.orV (h : W ta σ H0 fs fun x f1 => ∃ b, x = .bl b ∧ (b = true → Φ (.bl true) f1) ∧ (b = false → W tb σ H0 f1 Φ)) : W (tOrV ta tb) σ H0 fs Φ := fun H k _ c =>
  h H k _ fun _ _ H1 k1 ⟨b, e, q⟩ => ⟨b, e, by
    cases b with
    | true => exact c _ _ H1 k1 (q.1 rfl)
    | false => exact (q.2 rfl) H1 k1 _ c⟩
theorem W.notV (h : W ta σ H0 fs fun x f1 => ∃ b, x = .bl b ∧ Φ (.bl (!b)) f1) : W (tNotV ta) σ H0 fs Φ := fun H k _ c =>
  h H k _ fun _ _ H1 k1 ⟨b, e, q⟩ => ⟨b, e, c _ _ H1 k1 q⟩
theorem W.chain (h : W ta σ H0 fs fun x f1 => W tb σ H0 f1 fun y f2 => RW r x y H0 f2 fun z f3 => ∃ b, z = .bl b ∧ (b = true → W tc σ H0 f3 fun w f4 => RW r' y w H0 f4 Φ) ∧ (b = false → Φ (.bl false) f3)) : W (tChain r r' ta tb tc) σ H0 fs Φ := fun H k Q c =>
  h H k _ fun _ _ H1 k1 h1 => h1 H1 k1 _ fun _ _ H2 k2 h2 => h2 H2 k2 _ fun _ _ H3 k3 ⟨b, e, q⟩ => ⟨b, e, by
    cases b with
    | true => exact (q.1 rfl) H3 k3 _ fun _ _ H4 k4 h4 => h4 H4 k4 Q c
    | false => exact c _ _ H3 k3 (q.2 rfl)⟩
end

/-! ### statements -/
section
variable {σ : St} {H0 : Hp} {fs : Fs} {te ta tb : TE} {t : TT} {D : Ends} {ts tu tw tz : TS} {i : Nat} {v : V} {K : PySem.W.Frag}
theorem S.seq (h : N (ts { D with nx := tz D }) σ H0 fs) : N (tSeq ts tz D) σ H0 fs := h
theorem S.next (h : N D.nx σ H0 fs) : N (tNext D) σ H0 fs := h
theorem S.asg (h : W te σ H0 fs fun v f1 => N D.nx (σ.set i (some v)) H0 f1) : N (tAsg te (gName i) D) σ H0 fs := fun H k => h H k _ fun _ _ H1 k1 q => q H1 k1
theorem S.ret (h : W te σ H0 fs fun v f1 => NR D.rt v H0 f1) : N (tRet te D) σ H0 fs := fun H k => h H k _ fun _ _ H1 k1 q => q H1 k1
theorem S.drop (h : W te σ H0 fs fun _ f1 => N D.nx σ H0 f1) : N (tDrop te D) σ H0 fs := fun H k => h H k _ fun _ _ H1 k1 q => q H1 k1
theorem S.if_ (h : WT t σ H0 fs fun b f1 => (b = true → N (ts D) σ H0 f1) ∧ (b = false → N (tu D) σ H0 f1)) : N (tIfS t ts tu D) σ H0 fs := fun H k => h H k _ fun b _ H1 k1 q => by
  cases b with
  | true => exact (q.1 rfl) H1 k1
  | false => exact (q.2 rfl) H1 k1
/-- if t: x = e, one way: x has w behind it -/
theorem S.ifset (w : V) (h : WT t σ H0 fs fun b f1 => f1 = fs ∧ (b = true → W te σ H0 fs fun v f2 => v = w ∧ f2 = fs) ∧ (b = false → σ.set i (some w) = σ)) (hn : N D.nx (σ.set i (some w)) H0 fs) :
    N (tIfS t (tAsg te (gName i)) tNext D) σ H0 fs := fun H k => h H k _ fun b _ H1 k1 ⟨ef, q1, q2⟩ => by
  subst ef
  cases b with
  | true => exact q1 rfl H1 k1 _ fun v f2 H2 k2 ⟨e, e2⟩ => by subst e e2; exact hn H2 k2
  | false =>
    have := hn H1 k1
    rw [q2 rfl] at this
    exact this
/-- xs.append(e) -/
theorem S.app (h : W ta σ H0 fs fun x f1 => ∃ l, x = .ref l ∧ (∃ ys, Rl K H0 f1 l ys) ∧ W te σ H0 f1 fun v f2 => ∃ (xs : List V) (j : Nat), f2[j]? = some (l, .lst xs) ∧ xs.length < 1000000 ∧ N D.nx σ H0 (f2.set j (l, .lst (xs ++ [v])))) :
    N (tDrop (tBM K "list" rAppend ta (tCons te tNil)) D) σ H0 fs := fun H k => h H k _ fun _ _ H1 k1 ⟨l, e, ⟨ys, hy⟩, q⟩ => by
  subst e
  refine ⟨.inl ⟨rfl, ys, hy H1 k1⟩, q H1 k1 _ fun v f2 H2 k2 ⟨xs, j, hj, hl, n⟩ => ⟨l, xs, v, rfl, rfl, k2.get (List.mem_of_getElem? hj), sz_lt hl, n _ (k2.put hj)⟩⟩
/-- xs[i] = e -/
theorem S.setL (h : W te σ H0 fs fun v f1 => W ta σ H0 f1 fun x f2 => W tb σ H0 f2 fun y f3 => ∃ (l : Addr) (z : Int) (xs : List V) (j : Nat), x = .ref l ∧ y = .int z ∧ f3[j]? = some (l, .lst xs) ∧ (0 ≤ z ∧ z < (xs.length : Int)) ∧ N D.nx σ H0 (f3.set j (l, .lst (xs.set z.toNat v)))) :
    N (tAsg te (gSub ta tb rSetL) D) σ H0 fs := fun H k => h H k _ fun _ _ H1 k1 q => q H1 k1 _ fun _ _ H2 k2 q => q H2 k2 _ fun _ _ H3 k3 ⟨l, z, xs, j, e1, e2, hj, hz, n⟩ => by
  subst e1 e2
  exact ⟨l, xs, z, z.toNat, rfl, rfl, k3.get (List.mem_of_getElem? hj), ixN_int hz.1 hz.2, n _ (k3.put hj)⟩
/-- a, b, .. = e -/
theorem S.asgT {n : Nat} {g : TGs} (h : W te σ H0 fs fun v f1 => ∃ a xs, v = .ref a ∧ Rt K H0 f1 a xs ∧ xs.length = n ∧ ∀ H, Kn H0 f1 H → g xs σ H D.nx) : N (tAsg te (gTup K n g) D) σ H0 fs := fun H k =>
  h H k _ fun _ _ H1 k1 ⟨a, xs, e, hr, hl, q⟩ => ⟨a, xs, e, hr H1 k1, hl, q H1 k1⟩
/-- loops; I: what holds ahead of the i-th turn of the slots and the owned objects -/
structure Lp (H0 : Hp) (I : Nat → St → Fs → Prop) (i : Nat) (σ : St) (H : Hp) : Prop where
  ex : ∃ fs, Kn H0 fs H ∧ I i σ fs
theorem Lp.nx {I : Nat → St → Fs → Prop} {i : Nat} (h : I i σ fs) : N (Lp H0 I i) σ H0 fs := fun _ k => ⟨fs, k, h⟩
theorem Lp.sub {I : Nat → St → Fs → Prop} {i : Nat} (f1 : Fs) (s : List.Sublist f1 fs) (h : I i σ f1) : N (Lp H0 I i) σ H0 fs := fun _ k => ⟨f1, k.sub s, h⟩
theorem S.forR {ta : TA} {j : Nat} {n : Int} (I : Nat → St → Fs → Prop)
    (h : WA ta σ H0 fs fun vs f1 => vs = [.int n] ∧ n ≤ 1000000 ∧ -1000000 ≤ n ∧ I 0 σ f1)
    (hs : ∀ (i : Nat) σ' f', (i : Int) < n → I i σ' f' → N (ts { D with nx := Lp H0 I (i + 1), ct := Lp H0 I (i + 1), bk := D.nx }) (σ'.set j (some (.int (i : Int)))) H0 f')
    (hd : ∀ σ' f', I n.toNat σ' f' → N D.nx σ' H0 f') : N (tFor (iRng1 ta) (gName j) ts D) σ H0 fs := fun H k =>
  h H k _ fun vs f1 H1 k1 ⟨e, hn, hm, h0⟩ => by
    refine ⟨n, e, by omega, by omega, for_range (lo := 0) (n := n.toNat) (Lp H0 I) ⟨f1, k1, h0⟩ (fun i σ' H' hi p => ?_) (fun σ' H' p => ?_)⟩
    · obtain ⟨f', k', p⟩ := p.ex
      have e0 : (0 : Int) + (i : Int) = (i : Int) := Int.zero_add _
      show ts _ (σ'.set j (some (.int ((0 : Int) + (i : Int))))) H'
      rw [e0]
      exact hs i σ' f' (by omega) p H' k'
    · obtain ⟨f', k', p⟩ := p.ex
      exact hd σ' f' p H' k'
theorem S.forR2 {ta : TA} {j : Nat} {lo n : Int} (I : Nat → St → Fs → Prop)
    (h : WA ta σ H0 fs fun vs f1 => vs = [.int lo, .int n] ∧ (n ≤ 1000000 ∧ -1000000 ≤ n ∧ lo ≤ 1000000 ∧ -1000000 ≤ lo) ∧ I 0 σ f1)
    (hs : ∀ (i : Nat) σ' f', lo + (i : Int) < n → I i σ' f' → N (ts { D with nx := Lp H0 I (i + 1), ct := Lp H0 I (i + 1), bk := D.nx }) (σ'.set j (some (.int (lo + (i : Int))))) H0 f')
    (hd : ∀ σ' f', I (n - lo).toNat σ' f' → N D.nx σ' H0 f') : N (tFor (iRng2 ta) (gName j) ts D) σ H0 fs := fun H k =>
  h H k _ fun vs f1 H1 k1 ⟨e, hn, h0⟩ => by
    refine ⟨lo, n, e, ⟨by omega, by omega, by omega, by omega⟩, for_range (lo := lo) (n := (n - lo).toNat) (Lp H0 I) ⟨f1, k1, h0⟩ (fun i σ' H' hi p => ?_) (fun σ' H' p => ?_)⟩
    · obtain ⟨f', k', p⟩ := p.ex
      exact hs i σ' f' (by omega) p H' k'
    · obtain ⟨f', k', p⟩ := p.ex
      exact hd σ' f' p H' k'
/-- over a list that the body leaves as it is -/
theorem S.forL {a : Addr} {xs : List V} {g : TG} (I : Nat → St → Fs → Prop)
    (h : W te σ H0 fs fun v f1 => v = .ref a ∧ Rl K H0 f1 a xs ∧ I 0 σ f1)
    (hl : ∀ i σ' f', I i σ' f' → Rl K H0 f' a xs)
    (hs : ∀ (i : Nat) x σ' f', xs[i]? = some x → I i σ' f' → ∀ H, Kn H0 f' H → g x σ' H fun σ2 H2 => ts { D with nx := Lp H0 I (i + 1), ct := Lp H0 I (i + 1), bk := D.nx } σ2 H2)
    (hd : ∀ σ' f', I xs.length σ' f' → N D.nx σ' H0 f') : N (tFor (iList K te) g ts D) σ H0 fs := fun H k =>
  h H k _ fun v f1 H1 k1 ⟨e, hr, h0⟩ => by
    refine ⟨a, e, ⟨xs, hr H1 k1⟩, for_list (K := K) (a := a) (xs := xs) (Lp H0 I) ⟨f1, k1, h0⟩ (fun i σ' H' _ p => ?_) (fun i x σ' H' hx p => ?_) (fun σ' H' p => ?_)⟩
    · obtain ⟨f', k', p⟩ := p.ex
      exact hl i σ' f' p H' k'
    · obtain ⟨f', k', p⟩ := p.ex
      exact hs i x σ' f' hx p H' k'
    · obtain ⟨f', k', p⟩ := p.ex
      exact hd σ' f' p H' k'
/-- .. its items ints, its target a name -/
theorem S.forZ {a : Addr} {ns : List Int} {j : Nat} (I : Nat → St → Fs → Prop)
    (h : W te σ H0 fs fun v f1 => v = .ref a ∧ Rl K H0 f1 a (zV ns) ∧ I 0 σ f1)
    (hl : ∀ i σ' f', I i σ' f' → Rl K H0 f' a (zV ns))
    (hs : ∀ (i : Nat) σ' f', i < ns.length → I i σ' f' → N (ts { D with nx := Lp H0 I (i + 1), ct := Lp H0 I (i + 1), bk := D.nx }) (σ'.set j (some (.int (ns.getD i 0)))) H0 f')
    (hd : ∀ σ' f', I ns.length σ' f' → N D.nx σ' H0 f') : N (tFor (iList K te) (gName j) ts D) σ H0 fs := by
  refine S.forL (xs := zV ns) I h hl (fun i x σ' f' hx p H k => ?_) (fun σ' f' p => hd σ' f' (by rw [zV_length] at p; exact p))
  obtain ⟨hi, e⟩ := List.getElem?_eq_some_iff.mp hx
  rw [zV_length] at hi
  have e2 : x = .int (ns.getD i 0) := by
    have := zV_get (ns := ns) (i := i) (x := ns[i]) (List.getElem?_eq_getElem hi)
    rw [hx] at this
    rw [Option.some.inj this, List.getD_eq_getElem?_getD, List.getElem?_eq_getElem hi]; rfl
  subst e2
  exact hs i σ' f' hi p H k
/-- reversed(a list of ints) -/
theorem S.forRev {ta : TA} {a : Addr} {ns : List Int} {j : Nat} (I : Nat → St → Fs → Prop)
    (h : WA ta σ H0 fs fun vs f1 => vs = [.ref a] ∧ Rl K H0 f1 a (zV ns) ∧ I 0 σ f1)
    (hl : ∀ i σ' f', I i σ' f' → Rl K H0 f' a (zV ns))
    (hs : ∀ (i : Nat) σ' f', i < ns.length → I i σ' f' → N (ts { D with nx := Lp H0 I (i + 1), ct := Lp H0 I (i + 1), bk := D.nx }) (σ'.set j (some (.int (ns.reverse.getD i 0)))) H0 f')
    (hd : ∀ σ' f', I ns.length σ' f' → N D.nx σ' H0 f') : N (tFor (iRev K ta) (gName j) ts D) σ H0 fs := fun H k =>
  h H k _ fun vs f1 H1 k1 ⟨e, hr, h0⟩ => by
    refine ⟨a, zV ns, e, hr H1 k1, RT.for_Itv (K := K) (a := a) (xs := zV ns) (Lp H0 I) ⟨f1, k1, h0⟩ (fun i σ' H' p => ?_) (fun i x σ' H' hi hx p => ?_) (fun σ' H' p => ?_)⟩
    · obtain ⟨f', k', p⟩ := p.ex
      exact hl i σ' f' p H' k'
    · obtain ⟨f', k', p⟩ := p.ex
      rw [zV_length] at hi hx
      have hb : ns.length - 1 - i < ns.length := by omega
      have e2 : x = .int (ns.reverse.getD i 0) := by
        have := zV_get (ns := ns) (i := ns.length - 1 - i) (x := ns[ns.length - 1 - i]) (List.getElem?_eq_getElem hb)
        rw [hx] at this
        rw [Option.some.inj this, List.getD_eq_getElem?_getD, List.getElem?_reverse hi, List.getElem?_eq_getElem hb]; rfl
      subst e2
      exact hs i σ' f' hi p H' k'
    · obtain ⟨f', k', p⟩ := p.ex
      rw [zV_length] at p
      exact hd σ' f' p H' k'
/-- range(n), n written: turn by turn -/
structure Un (H0 : Hp) (I : St → Fs → Prop) (σ : St) (H : Hp) : Prop where
  ex : ∃ fs, Kn H0 fs H ∧ I σ fs
theorem Un.nx {I : St → Fs → Prop} (h : I σ fs) : N (Un H0 I) σ H0 fs := fun _ k => ⟨fs, k, h⟩
def UU (H0 : Hp) (ts : TS) (D : Ends) (j : Nat) : Nat → Nat → St → Fs → Prop
  | 0, _, σ, f => N D.nx σ H0 f
  | m + 1, i, σ, f => N (ts { D with nx := Un H0 (UU H0 ts D j m (i + 1)), ct := Un H0 (UU H0 ts D j m (i + 1)), bk := D.nx }) (σ.set j (some (.int (i : Int)))) H0 f
theorem UU.zero {j i : Nat} (h : N D.nx σ H0 fs) : UU H0 ts D j 0 i σ fs := h
theorem UU.succ {j i m : Nat} (h : N (ts { D with nx := Un H0 (UU H0 ts D j m (i + 1)), ct := Un H0 (UU H0 ts D j m (i + 1)), bk := D.nx }) (σ.set j (some (.int (i : Int)))) H0 fs) : UU H0 ts D j (m + 1) i σ fs := h
theorem S.forU {ta : TA} {j : Nat} (n : Nat) (h : WA ta σ H0 fs fun vs f1 => vs = [.int (n : Int)] ∧ n ≤ 1000000 ∧ UU H0 ts D j n 0 σ f1) : N (tFor (iRng1 ta) (gName j) ts D) σ H0 fs := fun H k =>
  h H k _ fun vs f1 H1 k1 ⟨e, hn, h0⟩ => by
    refine ⟨(n : Int), e, by omega, by omega, for_range (lo := 0) (n := ((n : Int)).toNat) (fun i σ H => ∃ m f, m + i = n ∧ Kn H0 f H ∧ UU H0 ts D j m i σ f) ⟨n, f1, by omega, k1, h0⟩ (fun i σ' H' hi p => ?_) (fun σ' H' p => ?_)⟩
    · obtain ⟨m, f, hm, k', p⟩ := p
      obtain ⟨m, rfl⟩ : ∃ m', m = m' + 1 := ⟨m - 1, by omega⟩
      have e0 : (0 : Int) + (i : Int) = (i : Int) := Int.zero_add _
      show ts _ (σ'.set j (some (.int ((0 : Int) + (i : Int))))) H'
      rw [e0]
      have q := p H' k'
      have ee : Un H0 (UU H0 ts D j m (i + 1)) = fun σ H => ∃ m f, m + (i + 1) = n ∧ Kn H0 f H ∧ UU H0 ts D j m (i + 1) σ f := by
        funext σ2 H2
        refine propext ⟨fun ⟨f, k2, u⟩ => ⟨m, f, by omega, k2, u⟩, fun ⟨m', f, hm', k2, u⟩ => ⟨f, k2, ?_⟩⟩
        have : m' = m := by omega
        subst this
        exact u
      rw [ee] at q
      exact q
    · obtain ⟨m, f, hm, k', p⟩ := p
      have : m = 0 := by omega
      subst this
      exact p H' k'
/-- a statement, then the rest, with a word between them -/
def tCut (t u : TS) : TS := fun D σ H => ∃ Mid : St → Hp → Prop, t { D with nx := Mid } σ H ∧ ∀ σ' H', Mid σ' H' → u D σ' H'
theorem pss_cut {X : Cx} {st : Stmt} {rest : List Stmt} {t u : TS} (h1 : PS X st t) (h2 : PSs X rest u) : PSs X (st :: rest) (tCut t u) := by
  refine ⟨fun pins s σ H D I h => ?_⟩
  obtain ⟨Mid, hm, hu⟩ := h
  refine wpAny_execs_cons (thn (h1.run pins s σ H { D with nx := Mid } I hm) fun f s1 q => ?_)
  cases f with
  | next =>
    obtain ⟨σ', H', I', q⟩ := q
    exact h2.run pins s1 σ' H' D I' (hu σ' H' q)
  | ret v => exact q
  | brk => exact q
  | cont => exact q
theorem S.cut (I : St → Fs → Prop) (h : N (ts { D with nx := Un H0 I }) σ H0 fs) (k : ∀ σ' f', I σ' f' → N (tz D) σ' H0 f') : N (tCut ts tz D) σ H0 fs := fun H kn =>
  ⟨Un H0 I, h H kn, fun σ' H' ⟨⟨f', k', i⟩⟩ => k σ' f' i H' k'⟩
theorem Un.sub {I : St → Fs → Prop} (f1 : Fs) (s : List.Sublist f1 fs) (h : I σ f1) : N (Un H0 I) σ H0 fs := fun _ k => ⟨f1, k.sub s, h⟩
/-- while; I: what holds, by a number that falls -/
structure Wl (H0 : Hp) (I : Nat → St → Fs → Prop) (m : Nat) (σ : St) (H : Hp) : Prop where
  ex : ∃ m', m' < m ∧ ∃ fs, Kn H0 fs H ∧ I m' σ fs
theorem Wl.nx {I : Nat → St → Fs → Prop} {m m' : Nat} (hm : m' < m) (h : I m' σ fs) : N (Wl H0 I m) σ H0 fs := fun _ k => ⟨m', hm, fs, k, h⟩
theorem Wl.sub {I : Nat → St → Fs → Prop} {m m' : Nat} (f1 : Fs) (s : List.Sublist f1 fs) (hm : m' < m) (h : I m' σ f1) : N (Wl H0 I m) σ H0 fs := fun _ k => ⟨m', hm, f1, k.sub s, h⟩
theorem S.while_ (I : Nat → St → Fs → Prop) (m0 : Nat) (h0 : I m0 σ fs)
    (hs : ∀ m σ' f', I m σ' f' → WT t σ' H0 f' fun b f1 => (b = true → N (ts { D with nx := Wl H0 I m, ct := Wl H0 I m, bk := D.nx }) σ' H0 f1) ∧ (b = false → N D.nx σ' H0 f1)) :
    N (tWhile t ts D) σ H0 fs := fun H k => by
  refine ⟨fun m σ H => ∃ fs, Kn H0 fs H ∧ I m σ fs, ⟨m0, fs, k, h0⟩, fun m σ' H' ⟨f', k', p⟩ => ?_⟩
  refine hs m σ' f' p H' k' _ fun b f1 H1 k1 q => ?_
  cases b with
  | true =>
    show ∃ N' : St → Hp → Prop, _
    exact ⟨Wl H0 I m, fun σ2 H2 w => w.ex, (q.1 rfl) H1 k1⟩
  | false => exact (q.2 rfl) H1 k1
end

/-! ### comprehensions whose items are all kept -/
section
variable {σ : St} {H0 : Hp} {fs : Fs} {Φ : CV} {te tl : TE} {K : PySem.W.Frag}
/-- over range(n): the i-th item is f i; the item's reading leaves the owned objects as they are (or drops what it made) -/
theorem W.lcR {ta : TA} {j : Nat} {vs : List Nat} {n : Int} (f : Nat → V)
    (h : WA ta σ H0 fs fun us f1 => us = [.int n] ∧ n ≤ 100000 ∧ -100000 ≤ n ∧
      (∀ x, wipe ((wipe σ vs).set j (some x)) vs = wipe σ vs) ∧
      (∀ (i : Nat) (D : Addr) (acc : List V), (i : Int) < n → W te ((wipe σ vs).set j (some (.int (i : Int)))) H0 ((D, .lst acc) :: f1) fun v f2 => v = f i ∧ List.Sublist ((D, .lst acc) :: f1) f2) ∧
      ∀ D, Φ (.ref D) ((D, .lst ((List.range n.toNat).map f)) :: f1)) : W (tLc (iRng1 ta) (gName j) tYes te vs) σ H0 fs Φ := fun H k Q c =>
  h H k _ fun us f1 H1 k1 ⟨e, hn, hm, hw, hs, hd⟩ => by
    refine ⟨n, e, by omega, by omega, fun D hD => ?_⟩
    refine lc_range (lo := 0) (n := n.toNat) (fun i H' => Kn H0 ((D, .lst ((List.range i).map f)) :: f1) H') (k1.new hD) (fun i H' hi p => ?_) (fun H' p => c _ _ _ p (hd D))
    have e0 : (0 : Int) + (i : Int) = (i : Int) := Int.zero_add _
    refine ⟨hw _, ?_⟩
    show te ((wipe σ vs).set j (some (.int ((0 : Int) + (i : Int))))) H' _
    rw [e0]
    refine hs i D _ (by omega) H' p _ fun v f2 H2 k2 ⟨ev, sb⟩ => ?_
    subst ev
    have k3 := k2.sub sb
    refine ⟨_, k3.get (.head _), sz_lt (by simp; omega), ?_⟩
    have k4 := k3.put (i := 0) (o' := .lst ((List.range i).map f ++ [f i])) rfl
    show Kn H0 ((D, .lst ((List.range (i + 1)).map f)) :: f1) _
    rw [List.range_succ, List.map_append]
    exact k4
/-- over a list of ints -/
theorem W.lcZ {ns : List Int} {j : Nat} {vs : List Nat} (f : Int → V)
    (h : W tl σ H0 fs fun v f1 => ∃ a, v = .ref a ∧ Rl K H0 f1 a (zV ns) ∧ ns.length ≤ 100000 ∧
      (∀ x, wipe ((wipe σ vs).set j (some x)) vs = wipe σ vs) ∧
      (∀ (x : Int) (D : Addr) (acc : List V), x ∈ ns → W te ((wipe σ vs).set j (some (.int x))) H0 ((D, .lst acc) :: f1) fun v f2 => v = f x ∧ List.Sublist ((D, .lst acc) :: f1) f2) ∧
      ∀ D, Φ (.ref D) ((D, .lst (ns.map f)) :: f1)) : W (tLc (iList K tl) (gName j) tYes te vs) σ H0 fs Φ := fun H k Q c =>
  h H k _ fun v f1 H1 k1 ⟨a, e, hr, hn, hw, hs, hd⟩ => by
    refine ⟨a, e, ⟨_, hr H1 k1⟩, fun D hD => ?_⟩
    refine lc_list (K := K) (a := a) (xs := zV ns) (fun i H' => Kn H0 ((D, .lst ((ns.take i).map f)) :: f1) H') (k1.new hD) (fun i H' _ p => hr H' p.drop) (fun i x H' hi p => ?_) (fun H' p => ?_)
    · obtain ⟨hl, e1⟩ := List.getElem?_eq_some_iff.mp hi
      rw [zV_length] at hl
      have e2 : x = .int ns[i] := by
        have := zV_get (ns := ns) (i := i) (x := ns[i]) (List.getElem?_eq_getElem hl)
        rw [hi] at this
        exact Option.some.inj this
      subst e2
      refine ⟨hw _, ?_⟩
      refine hs ns[i] D _ (List.getElem_mem hl) H' p _ fun v f2 H2 k2 ⟨ev, sb⟩ => ?_
      subst ev
      have k3 := k2.sub sb
      refine ⟨_, k3.get (.head _), sz_lt (by simp; omega), ?_⟩
      have k4 := k3.put (i := 0) (o' := .lst ((ns.take i).map f ++ [f ns[i]])) rfl
      show Kn H0 ((D, .lst ((ns.take (i + 1)).map f)) :: f1) _
      rw [List.take_add_one, List.getElem?_eq_getElem hl, List.map_append]
      exact k4
    · rw [zV_length, List.take_length] at p
      exact c _ _ _ p (hd D)
end
end Pa

namespace Pa
open PySem PySem.Spec PyProof.Rows L2

/-! ### products, quotients -/
section
variable {X : Cx}
theorem op_mulG : OpR X (binaryOp .Mult) (rI IntMulOk fun i j => .int (i * j)) := opI fun _ _ _ _ _ _ _ hc q => mul_int q hc
/-- // by a divisor other than nought -/
def CDivG (i j : Int) : Prop := j ≠ 0 ∧ Builtin.divisionGoesByPylong i j = false
theorem op_fdivG : OpR X (binaryOp .FloorDiv) (rI CDivG fun i j => .int (i.fdiv j)) := opI fun _ _ _ _ _ _ _ hc q => floordiv_int hc.1 q (.inl hc.2)
theorem op_addS : OpR X (binaryOp .Add) (fun x y H Q => ∃ i j, x = .str i ∧ y = .str j ∧ i.length + j.length ≤ sizeLine ∧ Q (.str (i ++ j)) H) := op_add_str
end
theorem CDivG.small {i j : Int} (h : j ≠ 0) (h2 : j.natAbs < 1073741824) : CDivG i j := ⟨h, PyProof.noPylong_small h2⟩
theorem CDivG.bits {i j : Int} {b : Nat} (h : j ≠ 0) (h2 : j.natAbs < 2 ^ b) (hb : b ≤ 9000) : CDivG i j :=
  ⟨h, PyProof.noPylong_of_log2 ((Nat.log2_lt (fun z => h (Int.natAbs_eq_zero.mp z))).mpr (Nat.lt_of_lt_of_le h2 (Nat.pow_le_pow_right (by decide) hb)))⟩
theorem mulL {i j : Int} (h1 : -(2 ^ 64) < i) (h2 : i < 2 ^ 64) : IntMulOk i j := .of_left (intBits_le_64 h1 h2)
theorem mulR {i j : Int} (h1 : -(2 ^ 64) < j) (h2 : j < 2 ^ 64) : IntMulOk i j := .of_right (intBits_le_64 h1 h2)
theorem bits_of {i : Int} {a : Nat} (h : i.natAbs < 2 ^ a) : Builtin.Int.intBits i ≤ a := by
  unfold Builtin.Int.intBits
  split
  · exact Nat.zero_le _
  · by_cases h0 : i.natAbs = 0
    · rename_i hi
      exact absurd (by simpa using (Int.natAbs_eq_zero.mp h0)) hi
    · have := (Nat.log2_lt h0).mpr h
      omega
theorem mulB {i j : Int} {a b : Nat} (ha : i.natAbs < 2 ^ a) (hb : j.natAbs < 2 ^ b) (h : a + b ≤ 134217728) : IntMulOk i j := by
  have h1 := bits_of ha
  have h2 := bits_of hb
  have e : bitsLine = 134217728 := by decide
  unfold IntMulOk
  intro z
  rw [Bool.and_eq_true] at z
  have z2 := z.2
  unfold Builtin.Int.intTooBig at z2
  have z3 := of_decide_eq_true z2
  rw [e] at z3
  omega

/-! ### comprehensions of ints -/
section
variable {σ : St} {H0 : Hp} {fs : Fs} {Φ : CV} {te tl : TE} {K : PySem.W.Frag}
theorem map_zV {α : Type} (l : List α) (g : α → Int) : l.map (fun i => V.int (g i)) = zV (l.map g) := by
  unfold zV; rw [List.map_map]; rfl
theorem W.lcRz {ta : TA} {j : Nat} {vs : List Nat} {n : Int} (g : Nat → Int)
    (h : WA ta σ H0 fs fun us f1 => us = [.int n] ∧ n ≤ 100000 ∧ -100000 ≤ n ∧
      (∀ x, wipe ((wipe σ vs).set j (some x)) vs = wipe σ vs) ∧
      (∀ (i : Nat) (D : Addr) (acc : List V), (i : Int) < n → W te ((wipe σ vs).set j (some (.int (i : Int)))) H0 ((D, .lst acc) :: f1) fun v f2 => v = .int (g i) ∧ List.Sublist ((D, .lst acc) :: f1) f2) ∧
      ∀ D, Φ (.ref D) ((D, .lst (zV ((List.range n.toNat).map g))) :: f1)) : W (tLc (iRng1 ta) (gName j) tYes te vs) σ H0 fs Φ := by
  refine W.lcR (n := n) (fun i => .int (g i)) ?_
  rw [map_zV]
  exact h
theorem W.lcZz {ns : List Int} {j : Nat} {vs : List Nat} (g : Int → Int)
    (h : W tl σ H0 fs fun v f1 => ∃ a, v = .ref a ∧ Rl K H0 f1 a (zV ns) ∧ ns.length ≤ 100000 ∧
      (∀ x, wipe ((wipe σ vs).set j (some x)) vs = wipe σ vs) ∧
      (∀ (x : Int) (D : Addr) (acc : List V), x ∈ ns → W te ((wipe σ vs).set j (some (.int x))) H0 ((D, .lst acc) :: f1) fun v f2 => v = .int (g x) ∧ List.Sublist ((D, .lst acc) :: f1) f2) ∧
      ∀ D, Φ (.ref D) ((D, .lst (zV (ns.map g))) :: f1)) : W (tLc (iList K tl) (gName j) tYes te vs) σ H0 fs Φ := by
  refine W.lcZ (ns := ns) (fun i => .int (g i)) ?_
  rw [map_zV]
  exact h
end

/-! ### isinstance -/
section
variable {H0 : Hp} {fs : Fs} {Φ : CV} {K : PySem.W.Frag}
theorem RC.isiII {i : Int} (q : Φ (.bl true) fs) : RC (rIsi K) [.int i, .ty "int"] H0 fs Φ := RC.isi (fun _ _ => .base (.int i)) (kit_ty (by decide +kernel)) q
theorem RC.isiIB {i : Int} (q : Φ (.bl false) fs) : RC (rIsi K) [.int i, .ty "bool"] H0 fs Φ := RC.isi (fun _ _ => .base (.int i)) (kit_ty (by decide +kernel)) q
theorem RC.isiBB {b : Bool} (q : Φ (.bl true) fs) : RC (rIsi K) [.bl b, .ty "bool"] H0 fs Φ := RC.isi (fun _ _ => .base (.bl b)) (kit_ty (by decide +kernel)) q
theorem RC.isiSI {x : Str} (q : Φ (.bl false) fs) : RC (rIsi K) [.str x, .ty "int"] H0 fs Φ := RC.isi (fun _ _ => .base (.str x)) (kit_ty (by decide +kernel)) q
theorem RC.isiSB {x : Str} (q : Φ (.bl false) fs) : RC (rIsi K) [.str x, .ty "bool"] H0 fs Φ := RC.isi (fun _ _ => .base (.str x)) (kit_ty (by decide +kernel)) q
theorem RC.isiSS {x : Str} (q : Φ (.bl true) fs) : RC (rIsi K) [.str x, .ty "str"] H0 fs Φ := RC.isi (fun _ _ => .base (.str x)) (kit_ty (by decide +kernel)) q
theorem RC.isiNI (q : Φ (.bl false) fs) : RC (rIsi K) [.non, .ty "int"] H0 fs Φ := RC.isi (fun _ _ => .base .non) (kit_ty (by decide +kernel)) q
theorem RC.isiNB (q : Φ (.bl false) fs) : RC (rIsi K) [.non, .ty "bool"] H0 fs Φ := RC.isi (fun _ _ => .base .non) (kit_ty (by decide +kernel)) q
theorem RC.isiLL {p : Addr} {xs : List V} (h : Rx H0 fs p (.lst xs)) (q : Φ (.bl true) fs) : RC (rIsi K) [.ref p, .ty "list"] H0 fs Φ := RC.isi (fun H k => .base (.lst (h H k))) (kit_ty (by decide +kernel)) q
theorem RC.isiTT {p : Addr} {xs : List V} (h : Rx H0 fs p (.tup xs)) (q : Φ (.bl true) fs) : RC (rIsi K) [.ref p, .ty "tuple"] H0 fs Φ := RC.isi (fun H k => .base (.tup (h H k))) (kit_ty (by decide +kernel)) q
theorem RC.isiLI {p : Addr} {xs : List V} (h : Rx H0 fs p (.lst xs)) (q : Φ (.bl false) fs) : RC (rIsi K) [.ref p, .ty "int"] H0 fs Φ := RC.isi (fun H k => .base (.lst (h H k))) (kit_ty (by decide +kernel)) q
theorem RC.isiLB {p : Addr} {xs : List V} (h : Rx H0 fs p (.lst xs)) (q : Φ (.bl false) fs) : RC (rIsi K) [.ref p, .ty "bool"] H0 fs Φ := RC.isi (fun H k => .base (.lst (h H k))) (kit_ty (by decide +kernel)) q
theorem RC.isiTI {p : Addr} {xs : List V} (h : Rx H0 fs p (.tup xs)) (q : Φ (.bl false) fs) : RC (rIsi K) [.ref p, .ty "int"] H0 fs Φ := RC.isi (fun H k => .base (.tup (h H k))) (kit_ty (by decide +kernel)) q
theorem RC.isiTB {p : Addr} {xs : List V} (h : Rx H0 fs p (.tup xs)) (q : Φ (.bl false) fs) : RC (rIsi K) [.ref p, .ty "bool"] H0 fs Φ := RC.isi (fun H k => .base (.tup (h H k))) (kit_ty (by decide +kernel)) q
end

theorem S.dropS {σ : St} {H0 : Hp} {fs : Fs} {tr : TA} {D : Ends} {sp : Sp} {E : St → XK} (h : W (tCallS sp E tr) σ H0 fs fun _ f1 => N D.nx σ H0 f1) : N (tDrop (tCallS sp E tr) D) σ H0 fs := S.drop h
/-! ### the ends -/
theorem N.sub {e : St → Hp → Prop} {σ : St} {H0 : Hp} {fs : Fs} (f0 : Fs) (s : List.Sublist f0 fs) (h : N e σ H0 f0) : N e σ H0 fs := fun H k => h H (k.sub s)
theorem N.of {e : St → Hp → Prop} {σ : St} {H0 : Hp} {fs : Fs} (h : N e σ H0 fs) : ∀ H, Kn H0 fs H → e σ H := h
theorem N.go {t : TS} {D : Ends} {σ : St} {H : Hp} (h : N (t D) σ H []) : t D σ H := h H (Same.refl H)
theorem NR.sub {Q : VK} {v : V} {H : Hp} {f1 f2 : Fs} (h : NR Q v H f1) (s : List.Sublist f1 f2) : NR Q v H f2 := fun H' k => h H' (k.sub s)
theorem NR.k {Q : VK} {v : V} {H : Hp} {f1 : Fs} (h : NR Q v H f1) {H' : Hp} (k : Kn H f1 H') : Q v H' := h H' k
end Pa

namespace Pa

/-! ### rows without noughts at their end -/
def trim (xs : List Int) : List Int := (xs.reverse.dropWhile (· == 0)).reverse
theorem trim_nil : trim [] = [] := rfl
theorem trim_zero (xs : List Int) : trim (xs ++ [0]) = trim xs := by
  unfold trim
  rw [List.reverse_append]
  rfl
theorem trim_last (xs : List Int) {x : Int} (h : x ≠ 0) : trim (xs ++ [x]) = xs ++ [x] := by
  unfold trim
  rw [List.reverse_append]
  show (List.dropWhile (· == 0) (x :: xs.reverse)).reverse = _
  rw [List.dropWhile_cons_of_neg (by simpa using h), List.reverse_cons, List.reverse_reverse]
/-- its last number is not nought -/
def Tr (xs : List Int) : Prop := trim xs = xs
theorem snoc_cases (xs : List Int) : xs = [] ∨ ∃ ys y, xs = ys ++ [y] := by
  cases h : xs.reverse with
  | nil => left; simpa using h
  | cons y ys => right; exact ⟨ys.reverse, y, by rw [← List.reverse_reverse xs, h, List.reverse_cons]⟩
theorem trim_cases (xs : List Int) : ∃ k, xs = trim xs ++ List.replicate k 0 ∧ (trim xs = [] ∨ ∃ ys y, trim xs = ys ++ [y] ∧ y ≠ 0) := by
  generalize hn : xs.length = n
  induction n generalizing xs with
  | zero =>
    have : xs = [] := List.length_eq_zero_iff.mp hn
    subst this
    exact ⟨0, rfl, .inl rfl⟩
  | succ n ih =>
    rcases snoc_cases xs with rfl | ⟨ys, y, rfl⟩
    · simp at hn
    · by_cases hy : y = 0
      · subst hy
        obtain ⟨k, e, c⟩ := ih ys (by simpa using hn)
        rw [trim_zero]
        refine ⟨k + 1, ?_, c⟩
        rw [List.replicate_succ', ← List.append_assoc, ← e]
      · refine ⟨0, ?_, .inr ⟨ys, y, trim_last ys hy, hy⟩⟩
        rw [trim_last ys hy]; simp
theorem tr_trim (xs : List Int) : Tr (trim xs) := by
  obtain ⟨k, e, c | ⟨ys, y, c, hy⟩⟩ := trim_cases xs
  · unfold Tr; rw [c]; rfl
  · unfold Tr; rw [c, trim_last ys hy]
theorem trim_length_le (xs : List Int) : (trim xs).length ≤ xs.length := by
  obtain ⟨k, e, _⟩ := trim_cases xs
  have := congrArg List.length e
  rw [List.length_append] at this
  omega
theorem mem_trim {xs : List Int} {x : Int} (h : x ∈ trim xs) : x ∈ xs := by
  obtain ⟨k, e, _⟩ := trim_cases xs
  rw [e]; exact List.mem_append_left _ h
theorem tr_nil : Tr [] := rfl
theorem tr_last {xs : List Int} (h : Tr xs) (hne : xs ≠ []) : xs.getLast hne ≠ 0 := by
  rcases snoc_cases xs with rfl | ⟨ys, y, rfl⟩
  · exact absurd rfl hne
  · rw [show (ys ++ [y]).getLast hne = y by simp]
    intro hy
    subst hy
    unfold Tr at h
    rw [trim_zero] at h
    have := congrArg List.length h
    have h2 := trim_length_le ys
    simp at this
    omega
theorem tr_of_last {ys : List Int} {y : Int} (h : y ≠ 0) : Tr (ys ++ [y]) := trim_last ys h
theorem take_succ_getD {xs : List Int} {n : Nat} (h : n < xs.length) : xs.take (n + 1) = xs.take n ++ [xs.getD n 0] := by
  rw [List.take_add_one, List.getElem?_eq_getElem h, List.getD_eq_getElem?_getD, List.getElem?_eq_getElem h]; rfl

theorem trim_rep (xs : List Int) : ∀ k : Nat, trim (xs ++ List.replicate k 0) = trim xs
  | 0 => by simp
  | k + 1 => by rw [List.replicate_succ', ← List.append_assoc, trim_zero, trim_rep xs k]

/-! ### bounds -/
def Bd (a : Nat) (x : Int) : Prop := x.natAbs < 2 ^ a
def BdL (a : Nat) (xs : List Int) : Prop := ∀ x ∈ xs, x.natAbs < 2 ^ a
theorem Bd.mono {a b : Nat} {x : Int} (h : Bd a x) (hab : a ≤ b) : Bd b x := Nat.lt_of_lt_of_le h (Nat.pow_le_pow_right (by decide) hab)
theorem BdL.mono {a b : Nat} {xs : List Int} (h : BdL a xs) (hab : a ≤ b) : BdL b xs := fun x hx => Bd.mono (h x hx) hab
theorem Bd.mul {a b : Nat} {x y : Int} (hx : Bd a x) (hy : Bd b y) : Bd (a + b) (x * y) := by
  unfold Bd at *
  rw [Int.natAbs_mul, Nat.pow_add]
  exact Nat.mul_lt_mul'' hx hy
theorem Bd.add {a : Nat} {x y : Int} (hx : Bd a x) (hy : Bd a y) : Bd (a + 1) (x + y) := by
  unfold Bd at *
  have := Int.natAbs_add_le x y
  rw [Nat.pow_succ]; omega
theorem Bd.neg {a : Nat} {x : Int} (hx : Bd a x) : Bd a (-x) := by
  unfold Bd at *; rw [Int.natAbs_neg]; exact hx
theorem Bd.sub {a : Nat} {x y : Int} (hx : Bd a x) (hy : Bd a y) : Bd (a + 1) (x - y) := by
  rw [Int.sub_eq_add_neg]; exact hx.add hy.neg
theorem Bd.zero {a : Nat} : Bd a 0 := by
  unfold Bd; exact Nat.two_pow_pos a
theorem BdL.trim {a : Nat} {xs : List Int} (h : BdL a xs) : BdL a (trim xs) := fun x hx => h x (mem_trim hx)
theorem BdL.at {a : Nat} {xs : List Int} (h : BdL a xs) (i : Nat) : Bd a (xs.getD i 0) := by
  rw [List.getD_eq_getElem?_getD]
  cases e : xs[i]? with
  | none => exact Bd.zero
  | some x => exact h x (List.mem_of_getElem? e)
theorem BdL.gat {a : Nat} {xs : List Int} (h : BdL a xs) (i : Int) : Bd a (gat xs i) := h.at i.toNat
theorem BdL.nil {a : Nat} : BdL a [] := fun _ h => nomatch h
theorem Bd.of_abs {a : Nat} {x : Int} {n : Nat} (h : x.natAbs ≤ n) (hn : n < 2 ^ a) : Bd a x := Nat.lt_of_le_of_lt h hn

/-! ### sums -/
def plus (xs ys : List Int) : List Int := trim ((List.range (max (xs.length : Int) (ys.length : Int)).toNat).map fun (k : Nat) => gat xs (k : Int) + gat ys (k : Int))
def minus (xs ys : List Int) : List Int := trim ((List.range (max (xs.length : Int) (ys.length : Int)).toNat).map fun (k : Nat) => gat xs (k : Int) - gat ys (k : Int))
def scaled (xs : List Int) (m : Int) : List Int := trim (xs.map fun x => m * x)
theorem plus_len (xs ys : List Int) : (plus xs ys).length ≤ max xs.length ys.length := by
  unfold plus
  refine Nat.le_trans (trim_length_le _) ?_
  rw [List.length_map, List.length_range]; omega
theorem minus_len (xs ys : List Int) : (minus xs ys).length ≤ max xs.length ys.length := by
  unfold minus
  refine Nat.le_trans (trim_length_le _) ?_
  rw [List.length_map, List.length_range]; omega
theorem scaled_len (xs : List Int) (m : Int) : (scaled xs m).length ≤ xs.length := by
  unfold scaled
  refine Nat.le_trans (trim_length_le _) ?_
  rw [List.length_map]; omega
theorem plus_bd {a : Nat} {xs ys : List Int} (hx : BdL a xs) (hy : BdL a ys) : BdL (a + 1) (plus xs ys) := by
  refine BdL.trim fun z hz => ?_
  obtain ⟨k, _, rfl⟩ := List.mem_map.mp hz
  exact (hx.gat _).add (hy.gat _)
theorem minus_bd {a : Nat} {xs ys : List Int} (hx : BdL a xs) (hy : BdL a ys) : BdL (a + 1) (minus xs ys) := by
  refine BdL.trim fun z hz => ?_
  obtain ⟨k, _, rfl⟩ := List.mem_map.mp hz
  exact (hx.gat _).sub (hy.gat _)
theorem scaled_bd {a b : Nat} {xs : List Int} {m : Int} (hx : BdL a xs) (hm : Bd b m) : BdL (b + a) (scaled xs m) := by
  refine BdL.trim fun z hz => ?_
  obtain ⟨k, hk, rfl⟩ := List.mem_map.mp hz
  exact hm.mul (hx k hk)

/-! ### the value -/
def pval : List Int → Int → Int
  | [], _ => 0
  | a :: r, x => a + x * pval r x
theorem pval_append (xs ys : List Int) (x : Int) : pval (xs ++ ys) x = pval xs x + x ^ xs.length * pval ys x := by
  induction xs with
  | nil => simp [pval]
  | cons a r ih =>
    simp only [List.cons_append, pval, ih, List.length_cons, Int.pow_succ]
    rw [Int.mul_add, Int.add_assoc, ← Int.mul_assoc, Int.mul_comm x (x ^ r.length)]
theorem pval_take_succ {ns : List Int} {i : Nat} (h : i < ns.length) (x : Int) : pval (ns.take (i + 1)) x = pval (ns.take i) x + ns.getD i 0 * x ^ i := by
  rw [take_succ_getD h, pval_append, List.length_take, Nat.min_eq_left (Nat.le_of_lt h)]
  simp only [pval, Int.mul_zero, Int.add_zero]
  rw [Int.mul_comm (x ^ i)]
theorem drop_pred_getD {ns : List Int} {i : Nat} (h : i < ns.length) : ns.drop (ns.length - (i + 1)) = ns.reverse.getD i 0 :: ns.drop (ns.length - i) := by
  have hb : ns.length - 1 - i < ns.length := by omega
  rw [List.drop_eq_getElem_cons (by omega : ns.length - (i + 1) < ns.length), List.getD_eq_getElem?_getD, List.getElem?_reverse h, List.getElem?_eq_getElem hb]
  have e1 : ns.length - (i + 1) + 1 = ns.length - i := by omega
  have e2 : ns.length - (i + 1) = ns.length - 1 - i := by omega
  rw [e1]
  simp only [Option.getD_some, e2]
theorem pval_bd {a b : Nat} {x : Int} (hx : Bd b x) : ∀ {ns : List Int}, BdL a ns → Bd (a + (b + 1) * ns.length) (pval ns x)
  | [], _ => Bd.zero
  | n :: r, h => by
    have ih := pval_bd hx (ns := r) fun y hy => h y (List.mem_cons_of_mem _ hy)
    have h1 : Bd a n := h n List.mem_cons_self
    have h2 := hx.mul ih
    have h3 := (h1.mono (b := b + (a + (b + 1) * r.length)) (by omega)).add h2
    refine h3.mono ?_
    rw [List.length_cons, Nat.mul_succ]
    omega
theorem Bd.pow {b : Nat} {x : Int} (hx : Bd b x) : ∀ n : Nat, Bd (b * n + 1) (x ^ n)
  | 0 => by unfold Bd; simp
  | n + 1 => by
    rw [Int.pow_succ]
    exact ((Bd.pow hx n).mul hx).mono (by rw [Nat.mul_succ]; omega)
end Pa
namespace Pa
/-! ### loops -/
def lp {α : Type} (f : Nat → α → α) : Nat → α → α
  | 0, s => s
  | n + 1, s => f n (lp f n s)
theorem lp_inv {α : Type} {f : Nat → α → α} {s : α} (p : Nat → α → Prop) (h0 : p 0 s) : ∀ n : Nat, (∀ i a, i < n → p i a → p (i + 1) (f i a)) → p n (lp f n s)
  | 0, _ => h0
  | n + 1, hs => hs n _ (Nat.lt_succ_self n) (lp_inv p h0 n fun i a hi => hs i a (Nat.lt_succ_of_lt hi))

/-! ### products -/
/-- one number's turn -/
def tmIn (x : Int) (ys : List Int) (j k : Nat) (acc : List Int) : List Int := acc.set (j + k) (acc.getD (j + k) 0 + x * ys.getD k 0)
def tmRow (xs ys : List Int) (j : Nat) (acc : List Int) : List Int := lp (tmIn (xs.getD j 0) ys j) ys.length acc
def tmRaw (xs ys : List Int) : List Int := lp (tmRow xs ys) xs.length (List.replicate (xs.length + ys.length) 0)
def tm (xs ys : List Int) : List Int := trim (tmRaw xs ys)
theorem tmIn_len (x : Int) (ys : List Int) (j k : Nat) (acc : List Int) : (tmIn x ys j k acc).length = acc.length := List.length_set
theorem lp_len {f : Nat → List Int → List Int} (h : ∀ i a, (f i a).length = a.length) : ∀ (n : Nat) (s : List Int), (lp f n s).length = s.length
  | 0, _ => rfl
  | n + 1, s => (h n _).trans (lp_len h n s)
theorem tmRow_len (xs ys : List Int) (j : Nat) (acc : List Int) : (tmRow xs ys j acc).length = acc.length := lp_len (fun i a => tmIn_len _ _ _ _ _) _ _
theorem tmRaw_len (xs ys : List Int) : (tmRaw xs ys).length = xs.length + ys.length := by
  unfold tmRaw
  rw [lp_len (fun i a => tmRow_len _ _ _ _), List.length_replicate]
theorem getD_set (l : List Int) (i j : Nat) (x : Int) : (l.set i x).getD j 0 = if i = j then (if i < l.length then x else 0) else l.getD j 0 := by
  rw [List.getD_eq_getElem?_getD, List.getD_eq_getElem?_getD, List.getElem?_set]
  split
  · rename_i h
    subst h
    split
    · rfl
    · rfl
  · rfl
theorem getD_replicate (n j : Nat) : (List.replicate n (0 : Int)).getD j 0 = 0 := by
  rw [List.getD_eq_getElem?_getD, List.getElem?_replicate]
  split <;> rfl
theorem tmIn_getD (x : Int) (ys : List Int) (j k : Nat) (acc : List Int) (i : Nat) : (tmIn x ys j k acc).getD i 0 = if j + k = i then (if j + k < acc.length then acc.getD (j + k) 0 + x * ys.getD k 0 else 0) else acc.getD i 0 := getD_set _ _ _ _
/-- how great a product's numbers are -/
theorem tm_bd {a b c : Nat} {xs ys : List Int} (hx : BdL a xs) (hy : BdL b ys) (hl : xs.length ≤ 2 ^ c) : BdL (a + b + c) (tm xs ys) := by
  refine BdL.trim ?_
  have key : ∀ i, (tmRaw xs ys).getD i 0 = 0 ∨ ((tmRaw xs ys).getD i 0).natAbs < xs.length * 2 ^ (a + b) := by
    unfold tmRaw
    refine lp_inv (fun n (acc : List Int) => ∀ i, acc.getD i 0 = 0 ∨ (acc.getD i 0).natAbs < n * 2 ^ (a + b)) (fun i => .inl (getD_replicate _ _)) xs.length fun j acc hj hacc => ?_
    unfold tmRow
    have in1 : ∀ i, ((lp (tmIn (xs.getD j 0) ys j) ys.length acc).getD i 0 = acc.getD i 0) ∨ (((lp (tmIn (xs.getD j 0) ys j) ys.length acc).getD i 0).natAbs < (acc.getD i 0).natAbs + 2 ^ (a + b)) := by
      have in2 : ∀ n, ∀ i, (i < j + n → ((lp (tmIn (xs.getD j 0) ys j) n acc).getD i 0 = acc.getD i 0) ∨ (((lp (tmIn (xs.getD j 0) ys j) n acc).getD i 0).natAbs < (acc.getD i 0).natAbs + 2 ^ (a + b))) ∧
          (j + n ≤ i → (lp (tmIn (xs.getD j 0) ys j) n acc).getD i 0 = acc.getD i 0) := by
        intro n
        induction n with
        | zero => exact fun i => ⟨fun _ => .inl rfl, fun _ => rfl⟩
        | succ n ih =>
          intro i
          show (_ → (tmIn _ _ _ _ _).getD i 0 = _ ∨ ((tmIn _ _ _ _ _).getD i 0).natAbs < _) ∧ (_ → (tmIn _ _ _ _ _).getD i 0 = _)
          rw [tmIn_getD]
          by_cases hi : j + n = i
          · subst hi
            rw [if_pos rfl]
            refine ⟨fun _ => ?_, fun h => by omega⟩
            have e := (ih (j + n)).2 (Nat.le_refl _)
            by_cases hlt : j + n < (lp (tmIn (xs.getD j 0) ys j) n acc).length
            · rw [if_pos hlt, e]
              right
              have h1 := (hx.at j).mul (hy.at n)
              unfold Bd at h1
              have h2 := Int.natAbs_add_le (acc.getD (j + n) 0) (xs.getD j 0 * ys.getD n 0)
              omega
            · rw [if_neg hlt]
              left
              rw [← e, List.getD_eq_getElem?_getD, List.getElem?_eq_none (by omega)]; rfl
          · rw [if_neg hi]
            exact ⟨fun h => (ih i).1 (by omega), fun h => (ih i).2 (by omega)⟩
      intro i
      by_cases h : i < j + ys.length
      · exact (in2 ys.length i).1 h
      · exact .inl ((in2 ys.length i).2 (by omega))
    intro i
    have hpos : 0 < 2 ^ (a + b) := Nat.two_pow_pos _
    have hsucc : (j + 1) * 2 ^ (a + b) = j * 2 ^ (a + b) + 2 ^ (a + b) := Nat.succ_mul _ _
    rcases in1 i with e | h
    · rw [e]
      rcases hacc i with h0 | h0
      · exact .inl h0
      · exact .inr (by omega)
    · right
      rcases hacc i with h0 | h0
      · rw [h0] at h
        simp only [Int.natAbs_zero] at h
        have : 0 ≤ j * 2 ^ (a + b) := Nat.zero_le _
        omega
      · omega
  intro x hx'
  obtain ⟨i, hi, rfl⟩ := List.getElem_of_mem hx'
  have e : (tmRaw xs ys)[i] = (tmRaw xs ys).getD i 0 := by
    rw [List.getD_eq_getElem?_getD, List.getElem?_eq_getElem hi]; rfl
  rw [e]
  rcases key i with h | h
  · rw [h]; exact Nat.two_pow_pos _
  · refine Nat.lt_of_lt_of_le h ?_
    rw [Nat.pow_add 2 (a + b) c, Nat.mul_comm]
    exact Nat.mul_le_mul_left _ hl
/-- the topmost place stays nought -/
theorem tmRaw_top (xs ys : List Int) (i : Nat) (h : xs.length + ys.length ≤ i + 1) : (tmRaw xs ys).getD i 0 = 0 := by
  unfold tmRaw
  refine lp_inv (fun _ (acc : List Int) => acc.getD i 0 = 0) (getD_replicate _ _) xs.length fun j acc hj hacc => ?_
  unfold tmRow
  refine lp_inv (fun _ (a : List Int) => a.getD i 0 = 0) hacc ys.length fun k a hk ha => ?_
  rw [tmIn_getD, if_neg (by omega)]
  exact ha
theorem trim_len_le {xs : List Int} {n : Nat} (h : ∀ i, n ≤ i → xs.getD i 0 = 0) : (trim xs).length ≤ n := by
  obtain ⟨k, e, c | ⟨ys, y, c, hy⟩⟩ := trim_cases xs
  · rw [c]; exact Nat.zero_le _
  · refine Nat.le_of_not_lt fun hlt => hy ?_
    have hz := h ys.length (by rw [c] at hlt; simp at hlt; omega)
    rw [e, c, List.getD_eq_getElem?_getD] at hz
    simpa using hz
theorem tm_len (xs ys : List Int) : (tm xs ys).length ≤ xs.length + ys.length - 1 := trim_len_le fun i hi => tmRaw_top xs ys i (by omega)
theorem tm_nil_right (xs : List Int) : tm xs [] = [] := by
  have h := trim_len_le (xs := tmRaw xs []) (n := 0) fun i _ => by
    unfold tmRaw
    refine lp_inv (fun _ (acc : List Int) => acc.getD i 0 = 0) (getD_replicate _ _) xs.length fun j acc hj hacc => hacc
  exact List.length_eq_zero_iff.mp (Nat.le_zero.mp h)
theorem tm_tr (xs ys : List Int) : Tr (tm xs ys) := tr_trim _

/-! ### powers -/
def pw (xs : List Int) : Nat → List Int
  | 0 => [1]
  | n + 1 => tm (pw xs n) xs
theorem pw_len (xs : List Int) : ∀ n : Nat, (pw xs n).length ≤ 1 + n * (xs.length - 1)
  | 0 => by simp [pw]
  | n + 1 => by
    have ih := pw_len xs n
    show (tm (pw xs n) xs).length ≤ _
    cases xs with
    | nil => rw [tm_nil_right]; exact Nat.zero_le _
    | cons x r =>
      have h := tm_len (pw (x :: r) n) (x :: r)
      simp only [List.length_cons, Nat.add_sub_cancel] at h ih ⊢
      rw [Nat.succ_mul]
      omega
theorem pw_bd {b c : Nat} {xs : List Int} (hx : BdL b xs) : ∀ n : Nat, (∀ i, i < n → (pw xs i).length ≤ 2 ^ c) → BdL (1 + n * (b + c)) (pw xs n)
  | 0, _ => fun x hx => by
    have : x = 1 := by simpa [pw] using hx
    subst this
    rw [Nat.zero_mul]; decide
  | n + 1, h => by
    have ih := pw_bd hx n fun i hi => h i (Nat.lt_succ_of_lt hi)
    refine (tm_bd ih hx (h n (Nat.lt_succ_self n))).mono ?_
    rw [Nat.succ_mul]; omega
end Pa

namespace Pa
open PySem PySem.Spec PyProof.Rows L2

abbrev veT : List Value := [.type "ValueError", .type "Exception", .type "BaseException", .type "object"]
/-- what the top says of an error's class -/
structure Err (K : PySem.W.Frag) (mg : Str → Option Value) (x : Str) (C : Addr) : Prop where
  g : mg x = some (.ref C)
  x : PySem.W.excIn K C veT "ValueError.__new__" = true
  k : PySem.W.keepIn K (.ref C) = true
  b : PySem.W.subIn K (.ref C) (.type "BaseException") = some true
  t : PySem.W.typeIn K (.ref C) = some (.type "type")
  h : PySem.W.hasDictIn K C = true
  i : ExcC K C
  v : PySem.W.kitOne K (.ref C) (.type "ValueError") = some true

theorem kit_ve {K : PySem.W.Frag} {C : Addr} (h : PySem.W.subIn K (.ref C) (.type "ValueError") = some true) : PySem.W.kitOne K (.ref C) (.type "ValueError") = some true := by
  have m : PySem.W.kitMeta "ValueError" = true := by decide +kernel
  unfold PySem.W.kitOne
  rw [if_neg (by intro z; exact nomatch (beq_iff_eq.mp z))]
  show (if PySem.W.kitMeta "ValueError" = true then PySem.W.subIn K (.ref C) (.type "ValueError") else none) = some true
  rw [if_pos m]
  exact h
/-! ### an exception's way -/
/-- a wish of an exception, over the owned objects -/
def NX (Wx : WX) (cls : Value) (d : Option Addr) (σ : St) (H0 : Hp) (fs : Fs) : Prop := ∀ H, Kn H0 fs H → Wx cls d σ H
def NE (E : XK) (cls : Value) (d : Option Addr) (H0 : Hp) (fs : Fs) : Prop := ∀ H, Kn H0 fs H → E cls d H
/-- a call that raises for certain -/
def WCX (sp : Sp) (vs : List V) (H0 : Hp) (fs : Fs) (Ψ : Value → Option Addr → Fs → Prop) : Prop := ∀ H, Kn H0 fs H → ∀ (Q : VK) (E : XK), (∀ cls d f' H', Kn H0 f' H' → Ψ cls d f' → E cls d H') → sp vs H Q E
/-- one that may raise -/
def WCB (sp : Sp) (vs : List V) (H0 : Hp) (fs : Fs) (Φ : CV) (Ψ : Value → Option Addr → Fs → Prop) : Prop := ∀ H, Kn H0 fs H → ∀ (Q : VK) (E : XK), (∀ v fs' H', Kn H0 fs' H' → Φ v fs' → Q v H') → (∀ cls d f' H', Kn H0 f' H' → Ψ cls d f' → E cls d H') → sp vs H Q E
section
variable {σ : St} {H0 : Hp} {fs : Fs} {Φ : CV} {tr : TA} {Wx : WX} {K : PySem.W.Frag} {c cls : Value} {d : Option Addr} {D : Ends} {ts : Addr → Value → Option Addr → TS} {Wout : WX} {i : Nat}
theorem W.callX {sp : Sp} (h : WA tr σ H0 fs fun vs f1 => WCX sp vs H0 f1 fun cls d f2 => NX Wx cls d σ H0 f2) : W (tCallS sp (WE Wx) tr) σ H0 fs Φ := fun H k Q _ =>
  h H k _ fun vs _ H1 k1 h1 => h1 H1 k1 Q _ fun cls d _ H2 k2 n => n H2 k2
theorem W.callB {sp : Sp} (h : WA tr σ H0 fs fun vs f1 => WCB sp vs H0 f1 Φ fun cls d f2 => NX Wx cls d σ H0 f2) : W (tCallS sp (WE Wx) tr) σ H0 fs Φ := fun H k Q cc =>
  h H k _ fun vs _ H1 k1 h1 => h1 H1 k1 Q _ cc fun cls d _ H2 k2 n => n H2 k2
theorem NX.only (hb : PySem.W.exmOne K cls c = some true) (h : ∀ a, N (ts a cls d D) σ H0 fs) : NX (wOnly K c ts Wout D) cls d σ H0 fs := fun H k => ⟨true, hb, fun _ a _ => h a H k, fun z => Bool.noConfusion z⟩
theorem NX.onlyF (hb : PySem.W.exmOne K cls c = some false) (h : NX Wout cls d σ H0 fs) : NX (wOnly K c ts Wout D) cls d σ H0 fs := fun H k => ⟨false, hb, fun z => Bool.noConfusion z, fun _ => h H k⟩
theorem NX.as (hb : PySem.W.exmOne K cls c = some true) (h : ∀ a, N (ts a cls d { nx := fun σ' H' => D.nx (σ'.set i none) H', rt := D.rt, bk := fun σ' H' => D.bk (σ'.set i none) H', ct := fun σ' H' => D.ct (σ'.set i none) H' }) (σ.set i (some (.ref a))) H0 fs) :
    NX (wAs K c i ts Wout D) cls d σ H0 fs := fun H k => ⟨true, hb, fun _ a _ => h a H k, fun z => Bool.noConfusion z⟩
theorem NX.many (hb : PySem.W.exmOne K cls c = some true) {r : List (Value × (Addr → Value → Option Addr → TS))} (h : ∀ a, N (ts a cls d D) σ H0 fs) : NX (wMany K Wout D ((c, ts) :: r)) cls d σ H0 fs := fun H k => ⟨true, hb, fun _ a _ => h a H k, fun z => Bool.noConfusion z⟩
theorem NX.manyF (hb : PySem.W.exmOne K cls c = some false) {r : List (Value × (Addr → Value → Option Addr → TS))} (h : NX (wMany K Wout D r) cls d σ H0 fs) : NX (wMany K Wout D ((c, ts) :: r)) cls d σ H0 fs := fun H k => ⟨false, hb, fun z => Bool.noConfusion z, fun _ => h H k⟩
end
/-- isinstance(e, T) of the error that the suite holds -/
def rIsV (K : PySem.W.Frag) (a : Addr) (cls : Value) (d : Option Addr) : List V → Hp → VK → Prop := fun xs H Q => ∃ D, cls = .ref D ∧ d = none ∧ ExcC K D ∧ rIsE K D a xs H Q
theorem call_isV {X : Cx} {a : Addr} {cls : Value} {d : Option Addr} {oe : Obj} {pn : List (Addr × Obj)} (hz : Zc cls d oe) (hf : ∃ vs, oe.data = .fields vs) : CallR (X.suite a ((a, oe) :: pn)) (.builtin "isinstance") (rIsV X.K a cls d) := by
  intro pins s σ H xs us Q I r h
  obtain ⟨D, e1, e2, C, h⟩ := h
  subst e1 e2
  exact call_isE C hz hf pins s σ H xs us Q I r h
theorem RC.isV {K : PySem.W.Frag} {H0 : Hp} {fs : Fs} {Φ : CV} {a D : Addr} {n : String} {b : Bool} (C : ExcC K D) (hk : PySem.W.kitOne K (.ref D) (.type n) = some b) (q : Φ (.bl b) fs) : RC (rIsV K a (.ref D) none) [.ref a, .ty n] H0 fs Φ := fun H k Q c =>
  ⟨D, rfl, rfl, C, .ty n, .type n, b, rfl, fun u r => r, hk, c _ fs H k q⟩
theorem call_isVK {X : Cx} {K : PySem.W.Frag} {a : Addr} {cls : Value} {d : Option Addr} {oe : Obj} {pn : List (Addr × Obj)} (hK : X.K = K) (hz : Zc cls d oe) (hf : ∃ vs, oe.data = .fields vs) : CallR (X.suite a ((a, oe) :: pn)) (.builtin "isinstance") (rIsV K a cls d) := by
  subst hK
  exact call_isV hz hf
section
variable {X : Cx} {K : PySem.W.Frag} {x n : Str} {c : Value} {i : Nat} {body suite : List Stmt} {b₀ : Stmt} {np pos pos' : Pos} {tb : WX → TS} {ts : Addr → Value → Option Addr → TS} {Wout : WX}
theorem ps_try_asK (hK : X.K = K) (hs : X.stack = X.env :: X.outer) (hf : X.env.frame = some X.env.locals) (hN : X.N.Nodup) (hi : X.N[i]? = some n) (hln : X.env.kindOf n = some .local) (hc : Names X x c) (tk : Takes X Wout)
    (hb : ∀ (W : WX) (pn : List (Addr × Obj)) (xe : Value → Shared → Prop), Takes (X.tr pn xe) W → PassesOwn (model X.prog X.w) X.A X.env xe → PSs (X.tr pn xe) body (tb W))
    (hsu : ∀ (a : Addr) (oe : Obj) (cls : Value) (d : Option Addr) (pn : List (Addr × Obj)), Zc cls d oe → (∃ vs, oe.data = .fields vs) → PSs (X.suite a ((a, oe) :: pn)) (b₀ :: suite) (ts a cls d)) :
    PS X (.Try body [.ExceptHandler (some (.Name x np)) (some n) (b₀ :: suite) pos'] [] [] pos) (fun D σ H => tb (wAs K c i ts Wout D) D σ H) := by
  subst hK
  exact ps_try_as hs hf hN hi hln hc tk hb hsu
theorem ps_try_onlyK (hK : X.K = K) (hs : X.stack = X.env :: X.outer) (hf : X.env.frame = some X.env.locals) (hc : Names X x c) (tk : Takes X Wout)
    (hb : ∀ (W : WX) (pn : List (Addr × Obj)) (xe : Value → Shared → Prop), Takes (X.tr pn xe) W → PassesOwn (model X.prog X.w) X.A X.env xe → PSs (X.tr pn xe) body (tb W))
    (hsu : ∀ (a : Addr) (oe : Obj) (cls : Value) (d : Option Addr) (pn : List (Addr × Obj)), Zc cls d oe → (∃ vs, oe.data = .fields vs) → PSs (X.suite a ((a, oe) :: pn)) (b₀ :: suite) (ts a cls d)) :
    PS X (.Try body [.ExceptHandler (some (.Name x np)) none (b₀ :: suite) pos'] [] [] pos) (fun D σ H => tb (wOnly K c ts Wout D) D σ H) := by
  subst hK
  exact ps_try_only hs hf hc tk hb hsu
theorem ps_try_manyK {h₀ : ExceptHandler} {hds : List ExceptHandler} {l : List (Value × (Addr → Value → Option Addr → TS))} (hK : X.K = K) (hs : X.stack = X.env :: X.outer) (hf : X.env.frame = some X.env.locals) (tk : Takes X Wout)
    (hb : ∀ (W : WX) (pn : List (Addr × Obj)) (xe : Value → Shared → Prop), Takes (X.tr pn xe) W → PassesOwn (model X.prog X.w) X.A X.env xe → PSs (X.tr pn xe) body (tb W))
    (hh : HdsOk X (h₀ :: hds) l) : PS X (.Try body (h₀ :: hds) [] [] pos) (fun D σ H => tb (wMany K Wout D l) D σ H) := by
  subst hK
  exact ps_try_many hs hf tk hb hh
end
/-- two promises of one def -/
theorem FnOk.both {P : Program} {w : World} {K : PySem.W.Frag} {mg : Str → Option Value} {base : Heap} {k k' : Nat} {f : Addr} {fd : FuncData} {ps : List Str} {sp1 sp2 : Sp}
    (F1 : FnOk P w K mg base CX0 k f fd ps sp1) (F2 : FnOk P w K mg base (L2.CX P w) k' f fd ps sp2) : FnOk P w K mg base (L2.CX P w) (max k k') f fd ps (fun vs H Q E => sp1 vs H Q E ∨ sp2 vs H Q E) :=
  ⟨fun vs H Q E h => h.elim (F1.len vs H Q E) (F2.len vs H Q E), fun A outer s H args us vs Q E hr he hb hv hs => by
    rcases hs with hs | hs
    · refine codeAny_mono ((F1.mono (Nat.le_max_left k k')).run A outer s H args us vs Q E hr he hb hv hs) fun r s' h => ?_
      cases r with
      | error e => exact False.elim h
      | ok fl => cases fl <;> exact h
    · exact (F2.mono (Nat.le_max_right k k')).run A outer s H args us vs Q E hr he hb hv hs⟩
/-- one that never raises, among those that may -/
theorem FnOk.up {P : Program} {w : World} {K : PySem.W.Frag} {mg : Str → Option Value} {base : Heap} {k : Nat} {f : Addr} {fd : FuncData} {ps : List Str} {sp1 : Sp}
    (F1 : FnOk P w K mg base CX0 k f fd ps sp1) : FnOk P w K mg base (L2.CX P w) k f fd ps sp1 :=
  ⟨F1.len, fun A outer s H args us vs Q E hr he hb hv hs => codeAny_mono (F1.run A outer s H args us vs Q E hr he hb hv hs) fun r s' h => by
    cases r with
    | error e => exact False.elim h
    | ok fl => cases fl <;> exact h⟩
/-- a block that begins with an if and is left in it -/
theorem S.never {D : Ends} {σ : St} {H0 : Hp} {fs : Fs} (h : False) : N (tNever D) σ H0 fs := h.elim
section
variable {P : Program} {w : World} {K : PySem.W.Frag} {mg : Str → Option Value} {base : Heap}
theorem passesX {N : List Str} {qual : Str} {scope : Scope} {f : Addr} {cd : Value} {A : Around} {outer : List Env} {s : Shared} {H : Hp} {E : XK} :
    PassesOwn (model P w) (cxOf (L2.CX P w) P w K mg base N qual scope f cd A outer s H E).A (cxOf (L2.CX P w) P w K mg base N qual scope f cd A outer s H E).env (cxOf (L2.CX P w) P w K mg base N qual scope f cd A outer s H E).xe :=
  passes_of (X := cxOf (L2.CX P w) P w K mg base N qual scope f cd A outer s H E) (K := fun e s' => L2.CX P w outer H s E e s') (E₁ := fun e' s'' => L2.CX P w outer H s E e' s'') rfl
end
end Pa

namespace Pa
open PySem PySem.Spec PyProof.Rows L2

/-! ### data -/
def zD (ns : List Int) : PyData := .list (ns.map .int)
theorem zD_layAll : ∀ ns : List Int, PyData.canLayAll0 (ns.map PyData.int) = true
  | [] => rfl
  | n :: r => by
    show (PyData.canLay0 (.int n) && PyData.canLayAll0 (r.map PyData.int)) = true
    rw [zD_layAll r]; rfl
theorem zD_depthAll : ∀ ns : List Int, PyData.depthAll (ns.map PyData.int) = 0
  | [] => rfl
  | n :: r => by
    show max (PyData.depth (.int n)) (PyData.depthAll (r.map PyData.int)) = 0
    rw [zD_depthAll r]; rfl
theorem zD_lay (ns : List Int) : PyData.canLay0 (zD ns) = true := by
  show PyData.canLayAll0 (ns.map PyData.int) = true
  exact zD_layAll ns
theorem zD_depth (ns : List Int) : PyData.depth (zD ns) = 1 := by
  show PyData.depthAll (ns.map PyData.int) + 1 = 1
  rw [zD_depthAll]
theorem zD_shaped (ns : List Int) : SeqAt.shaped (zD ns) = true := by
  unfold SeqAt.shaped
  rw [zD_lay, zD_depth]; rfl
theorem zD_eqvAll : ∀ xs ys : List Int, PyData.eqvAll (xs.map PyData.int) (ys.map PyData.int) = decide (xs = ys)
  | [], [] => rfl
  | [], y :: ys => rfl
  | x :: xs, [] => rfl
  | x :: xs, y :: ys => by
    show (PyData.eqv (.int x) (.int y) && PyData.eqvAll (xs.map PyData.int) (ys.map PyData.int)) = _
    rw [zD_eqvAll xs ys]
    show ((x == y) && decide (xs = ys)) = _
    rw [Bool.eq_iff_iff]
    simp
theorem zD_eqv (xs ys : List Int) : PyData.eqv (zD xs) (zD ys) = decide (xs = ys) := zD_eqvAll xs ys
theorem zD_dp {K : PySem.W.Frag} {H : Hp} : ∀ ns : List Int, DpAll K H (zV ns) (ns.map PyData.int)
  | [] => .nil
  | n :: r => .cons (.int n) (zD_dp r)
/-- what stands at a value, as data -/
def Rd (K : PySem.W.Frag) (H0 : Hp) (fs : Fs) (v : V) (d : PyData) : Prop := ∀ H, Kn H0 fs H → Dp K H v d
def RdA (K : PySem.W.Frag) (H0 : Hp) (fs : Fs) (vs : List V) (ds : List PyData) : Prop := ∀ H, Kn H0 fs H → DpAll K H vs ds
section
variable {K : PySem.W.Frag} {H0 : Hp} {fs : Fs} {Φ : CV} {x y : V}
theorem Rd.z {a : Addr} {ns : List Int} (h : Rl K H0 fs a (zV ns)) : Rd K H0 fs (.ref a) (zD ns) := fun H k => .lst (h H k) (zD_dp ns)
theorem Rd.int {i : Int} : Rd K H0 fs (.int i) (.int i) := fun _ _ => .int i
theorem Rd.lst {a : Addr} {vs : List V} {ds : List PyData} (h : Rl K H0 fs a vs) (hd : RdA K H0 fs vs ds) : Rd K H0 fs (.ref a) (.list ds) := fun H k => .lst (h H k) (hd H k)
theorem Rd.tup {a : Addr} {vs : List V} {ds : List PyData} (h : Rt K H0 fs a vs) (hd : RdA K H0 fs vs ds) : Rd K H0 fs (.ref a) (.tuple ds) := fun H k => .tup (h H k) (hd H k)
theorem RdA.nil : RdA K H0 fs [] [] := fun _ _ => .nil
theorem RdA.cons {v : V} {vs : List V} {d : PyData} {ds : List PyData} (h : Rd K H0 fs v d) (hr : RdA K H0 fs vs ds) : RdA K H0 fs (v :: vs) (d :: ds) := fun H k => .cons (h H k) (hr H k)
theorem RW.eqD {d e : PyData} (h : Rd K H0 fs x d) (h2 : Rd K H0 fs y e) (s1 : SeqAt.shaped d = true) (s2 : SeqAt.shaped e = true) (q : Φ (.bl (PyData.eqv d e)) fs) : RW (rEqD K) x y H0 fs Φ := fun H k _ c => ⟨d, e, h H k, h2 H k, s1, s2, c _ fs H k q⟩
theorem RW.neD {d e : PyData} (h : Rd K H0 fs x d) (h2 : Rd K H0 fs y e) (s1 : SeqAt.shaped d = true) (s2 : SeqAt.shaped e = true) (q : Φ (.bl (!PyData.eqv d e)) fs) : RW (rNeD K) x y H0 fs Φ := fun H k _ c => ⟨d, e, h H k, h2 H k, s1, s2, c _ fs H k q⟩
theorem RW.eqZ {a b : Addr} {xs ys : List Int} (h : Rl K H0 fs a (zV xs)) (h2 : Rl K H0 fs b (zV ys)) (q : Φ (.bl (decide (xs = ys))) fs) : RW (rEqD K) (.ref a) (.ref b) H0 fs Φ :=
  RW.eqD (Rd.z h) (Rd.z h2) (zD_shaped _) (zD_shaped _) (by rw [zD_eqv]; exact q)
theorem RW.neZ {a b : Addr} {xs ys : List Int} (h : Rl K H0 fs a (zV xs)) (h2 : Rl K H0 fs b (zV ys)) (q : Φ (.bl (!decide (xs = ys))) fs) : RW (rNeD K) (.ref a) (.ref b) H0 fs Φ :=
  RW.neD (Rd.z h) (Rd.z h2) (zD_shaped _) (zD_shaped _) (by rw [zD_eqv]; exact q)
end
/-- x in a written tuple -/
def rInT (K : PySem.W.Frag) : R2 := fun x y H Q => ∃ d ds, Dp K H x d ∧ Dp K H y (.tuple ds) ∧ SeqAt.shaped d = true ∧ SeqAt.shaped (.tuple ds) = true ∧ Q (.bl (ds.any fun z => PyData.eqv z d)) H
theorem op_inT {X : Cx} {k : Nat} (hr : Room k X.A) : OpR X (compareOp .In) (rInT X.K) := by
  intro pins s σ H x y v u Q I rx ry h
  obtain ⟨d, ds, hd, he, sd, se, q⟩ := h
  obtain ⟨as, r1⟩ := Dp.reads I d x v hd rx
  obtain ⟨bs, r2⟩ := Dp.reads I (.tuple ds) y u he ry
  exact SeqAt.in_tuple_reads r2 r1 (SeqAt.canLay_of_shaped se) (SeqAt.canLay_of_shaped sd) (room_in_shaped sd (by have := hr.un; omega)) ⟨.bl _, H, I, rfl, q⟩
theorem op_inDr {X : Cx} {k : Nat} (hr : Room k X.A) : OpR X (compareOp .In) (rInD X.K) := op_inD (by have := hr.un; omega)
theorem op_notInDr {X : Cx} {k : Nat} (hr : Room k X.A) : OpR X (compareOp .NotIn) (rNotInD X.K) := op_notInD (by have := hr.un; omega)
section
variable {K : PySem.W.Frag} {H0 : Hp} {fs : Fs} {Φ : CV} {x y : V}
theorem RW.inT {d : PyData} {ds : List PyData} (h : Rd K H0 fs x d) (h2 : Rd K H0 fs y (.tuple ds)) (s1 : SeqAt.shaped d = true) (s2 : SeqAt.shaped (.tuple ds) = true) (q : Φ (.bl (ds.any fun z => PyData.eqv z d)) fs) : RW (rInT K) x y H0 fs Φ :=
  fun H k _ c => ⟨d, ds, h H k, h2 H k, s1, s2, c _ fs H k q⟩
theorem RW.inD {d : PyData} {ds : List PyData} (h : Rd K H0 fs x d) (h2 : Rd K H0 fs y (.list ds)) (s1 : SeqAt.shaped d = true) (s2 : SeqAt.shaped (.list ds) = true) (q : Φ (.bl (ds.any fun z => PyData.eqv z d)) fs) : RW (rInD K) x y H0 fs Φ :=
  fun H k _ c => ⟨d, ds, h H k, h2 H k, s1, s2, c _ fs H k q⟩
theorem RW.notInD {d : PyData} {ds : List PyData} (h : Rd K H0 fs x d) (h2 : Rd K H0 fs y (.list ds)) (s1 : SeqAt.shaped d = true) (s2 : SeqAt.shaped (.list ds) = true) (q : Φ (.bl (!ds.any fun z => PyData.eqv z d)) fs) : RW (rNotInD K) x y H0 fs Φ :=
  fun H k _ c => ⟨d, ds, h H k, h2 H k, s1, s2, c _ fs H k q⟩
/-- written lists of ints -/
theorem W.lst0 {σ : St} (h : ∀ p, Φ (.ref p) ((p, .lst (zV [])) :: fs)) : W (tLst tNil) σ H0 fs Φ := W.lst (WA.nil ⟨by simp, h⟩)
theorem W.lst1 {σ : St} {ta : TE} (h : W ta σ H0 fs fun x f1 => ∃ a, x = .int a ∧ ∀ p, Φ (.ref p) ((p, .lst (zV [a])) :: f1)) : W (tLst (tCons ta tNil)) σ H0 fs Φ := fun H k Q c =>
  h H k _ fun x f1 H1 k1 ⟨a, e, q⟩ => by
    subst e
    exact ⟨sz_le (by simp), fun p hp => c _ _ _ (k1.new hp) (q p)⟩
end

/-! ### for x in a list or a tuple -/
def iSeq (K : PySem.W.Frag) (tl : TE) : TI := fun σ H R => iList K tl σ H R ∨ iTup K tl σ H R
theorem pi_seq {X : Cx} {tg l : Expr} {tl : TE} (hl : PE X l tl) : PI X tg l (iSeq X.K tl) :=
  ⟨fun pins s σ H R I h => h.elim (fun h => (pi_list hl).run pins s σ H R I h) fun h => (pi_tup hl).run pins s σ H R I h⟩
section
variable {σ : St} {H0 : Hp} {fs : Fs} {te : TE} {D : Ends} {ts : TS} {K : PySem.W.Frag}
theorem S.forQ {a : Addr} {xs : List V} {g : TG} (hq : SqL K H0 a xs ∨ SqT K H0 a xs) (I : Nat → St → Fs → Prop)
    (h : ∀ Φ : CV, Φ (.ref a) fs → W te σ H0 fs Φ) (h0 : I 0 σ fs)
    (hs : ∀ (i : Nat) x σ' f', xs[i]? = some x → I i σ' f' → ∀ H, Kn H0 f' H → g x σ' H fun σ2 H2 => ts { D with nx := Lp H0 I (i + 1), ct := Lp H0 I (i + 1), bk := D.nx } σ2 H2)
    (hd : ∀ σ' f', I xs.length σ' f' → N D.nx σ' H0 f') : N (tFor (iSeq K te) g ts D) σ H0 fs := fun H k => by
  rcases hq with hq | hq
  · refine .inl (h (fun v f1 => v = .ref a ∧ f1 = fs) ⟨rfl, rfl⟩ H k _ fun v f1 H1 k1 ⟨e, ef⟩ => ?_)
    subst ef
    refine ⟨a, e, ⟨xs, k1.same.seq hq⟩, for_list (K := K) (a := a) (xs := xs) (Lp H0 I) ⟨f1, k1, h0⟩ (fun i σ' H' _ p => ?_) (fun i x σ' H' hx p => ?_) (fun σ' H' p => ?_)⟩
    · obtain ⟨f', k', p⟩ := p.ex
      exact k'.same.seq hq
    · obtain ⟨f', k', p⟩ := p.ex
      exact hs i x σ' f' hx p H' k'
    · obtain ⟨f', k', p⟩ := p.ex
      exact hd σ' f' p H' k'
  · have st : ∀ {H' : Hp}, Same H0 H' → SqT K H' a xs := fun {H'} s => by
      rcases hq with (hq | ⟨o, hq⟩) | hq
      · exact .inl (.inl (s _ _ hq))
      · exact .inl (.inr ⟨o, s _ _ hq⟩)
      · exact .inr hq
    refine .inr (h (fun v f1 => v = .ref a ∧ f1 = fs) ⟨rfl, rfl⟩ H k _ fun v f1 H1 k1 ⟨e, ef⟩ => ?_)
    subst ef
    refine ⟨a, e, ⟨xs, st k1.same⟩, for_tup (K := K) (a := a) (xs := xs) (Lp H0 I) ⟨f1, k1, h0⟩ (fun i σ' H' _ p => ?_) (fun i x σ' H' hx p => ?_) (fun σ' H' p => ?_)⟩
    · obtain ⟨f', k', p⟩ := p.ex
      exact st k'.same
    · obtain ⟨f', k', p⟩ := p.ex
      exact hs i x σ' f' hx p H' k'
    · obtain ⟨f', k', p⟩ := p.ex
      exact hd σ' f' p H' k'
theorem RC.listQ {p : Addr} {xs : List V} {Φ : CV} (h : SqL K H0 p xs ∨ SqT K H0 p xs) (q : ∀ l, Φ (.ref l) ((l, .lst xs) :: fs)) : RC (rListOf K) [.ref p] H0 fs Φ := by
  rcases h with h | h
  · exact RC.listL (Rl.sq h) q
  · refine RC.listT (fun H k => ?_) q
    have s := k.same
    rcases h with (h | ⟨o, h⟩) | h
    · exact .inl (.inl (s _ _ h))
    · exact .inl (.inr ⟨o, s _ _ h⟩)
    · exact .inr h
end
/-- things that are no whole number -/
def OddH (H : Hp) (v : V) : Prop := (∃ b, v = .bl b) ∨ v = .non ∨ (∃ s, v = .str s) ∨ (∃ p l, v = .ref p ∧ H p = some (.lst l)) ∨ ∃ p l, v = .ref p ∧ H p = some (.tup l)
theorem OddH.same {H H' : Hp} {v : V} (h : OddH H v) (s : Same H H') : OddH H' v := by
  rcases h with h | h | h | ⟨p, l, e, h⟩ | ⟨p, l, e, h⟩
  · exact .inl h
  · exact .inr (.inl h)
  · exact .inr (.inr (.inl h))
  · exact .inr (.inr (.inr (.inl ⟨p, l, e, s _ _ h⟩)))
  · exact .inr (.inr (.inr (.inr ⟨p, l, e, s _ _ h⟩)))
def OddF (fs : Fs) (v : V) : Prop := (∃ b, v = .bl b) ∨ v = .non ∨ (∃ s, v = .str s) ∨ (∃ p l, v = .ref p ∧ (p, HO.lst l) ∈ fs) ∨ ∃ p l, v = .ref p ∧ (p, HO.tup l) ∈ fs
theorem OddF.at {H0 H : Hp} {fs : Fs} {v : V} (h : OddF fs v) (k : Kn H0 fs H) : OddH H v := by
  rcases h with h | h | h | ⟨p, l, e, h⟩ | ⟨p, l, e, h⟩
  · exact .inl h
  · exact .inr (.inl h)
  · exact .inr (.inr (.inl h))
  · exact .inr (.inr (.inr (.inl ⟨p, l, e, k.get h⟩)))
  · exact .inr (.inr (.inr (.inr ⟨p, l, e, k.get h⟩)))
theorem OddF.mono {fs fs' : Fs} {v : V} (h : OddF fs v) (hs : ∀ x ∈ fs, x ∈ fs') : OddF fs' v := by
  rcases h with h | h | h | ⟨p, l, e, h⟩ | ⟨p, l, e, h⟩
  · exact .inl h
  · exact .inr (.inl h)
  · exact .inr (.inr (.inl h))
  · exact .inr (.inr (.inr (.inl ⟨p, l, e, hs _ h⟩)))
  · exact .inr (.inr (.inr (.inr ⟨p, l, e, hs _ h⟩)))
end Pa

namespace Pa
open PySem PySem.Spec PyProof.Rows L2

theorem Kn.front {H0 : Hp} : ∀ {fs : Fs} {H : Hp} {i : Nat} {x : Addr × HO}, Kn H0 fs H → fs[i]? = some x → Kn H0 (x :: fs.eraseIdx i) H
  | [], _, _, _, _, h => by simp at h
  | y :: fs, H, 0, x, k, h => by
    have e : y = x := Option.some.inj h
    subst e; exact k
  | y :: fs, H, i + 1, x, ⟨e, H1, s, n, k⟩, h => by
    have h' : fs[i]? = some x := by simpa using h
    have k' := Kn.front k h'
    have k2 : Kn H0 (y :: x :: fs.eraseIdx i) H := ⟨e, H1, s, n, k'⟩
    exact k2.swap

section
variable {σ : St} {H0 : Hp} {fs : Fs} {Φ : CV} {te tl : TE} {tt : TT} {K : PySem.W.Frag}
/-- over range(lo, n): the i-th item is g i -/
theorem W.lcR2z {ta : TA} {j : Nat} {vs : List Nat} {lo n : Int} (g : Nat → Int)
    (h : WA ta σ H0 fs fun us f1 => us = [.int lo, .int n] ∧ (n ≤ 100000 ∧ -100000 ≤ n ∧ lo ≤ 100000 ∧ 0 ≤ lo) ∧
      (∀ x, wipe ((wipe σ vs).set j (some x)) vs = wipe σ vs) ∧
      (∀ (i : Nat) (D : Addr) (acc : List V), lo + (i : Int) < n → W te ((wipe σ vs).set j (some (.int (lo + (i : Int))))) H0 ((D, .lst acc) :: f1) fun v f2 => v = .int (g i) ∧ List.Sublist ((D, .lst acc) :: f1) f2) ∧
      ∀ D, Φ (.ref D) ((D, .lst (zV ((List.range (n - lo).toNat).map g))) :: f1)) : W (tLc (iRng2 ta) (gName j) tYes te vs) σ H0 fs Φ := fun H k Q c =>
  h H k _ fun us f1 H1 k1 ⟨e, hn, hw, hs, hd⟩ => by
    refine ⟨lo, n, e, ⟨by omega, by omega, by omega, by omega⟩, fun D hD => ?_⟩
    refine lc_range (lo := lo) (n := (n - lo).toNat) (fun i H' => Kn H0 ((D, .lst (zV ((List.range i).map g))) :: f1) H') (k1.new hD) (fun i H' hi p => ?_) (fun H' p => c _ _ _ p (hd D))
    refine ⟨hw _, ?_⟩
    show te ((wipe σ vs).set j (some (.int (lo + (i : Int))))) H' _
    refine hs i D _ (by omega) H' p _ fun v f2 H2 k2 ⟨ev, sb⟩ => ?_
    subst ev
    have k3 := k2.sub sb
    refine ⟨_, k3.get (.head _), sz_lt (by rw [zV_length]; simp; omega), ?_⟩
    have k4 := k3.put (i := 0) (o' := .lst (zV ((List.range i).map g) ++ [.int (g i)])) rfl
    show Kn H0 ((D, .lst (zV ((List.range (i + 1)).map g))) :: f1) _
    rw [List.range_succ, List.map_append, ← zV_app]
    exact k4
/-- over a list, with tests, items that may be made anew -/
theorem W.lcG {a : Addr} {xs : List V} {j : Nat} {vs : List Nat} (I : Nat → List V → Fs → Prop)
    (h : W tl σ H0 fs fun v f1 => v = .ref a ∧ Rl K H0 f1 a xs ∧ xs.length ≤ 100000 ∧ I 0 [] f1)
    (hl : ∀ i acc f, I i acc f → Rl K H0 f a xs)
    (hw : ∀ x, wipe ((wipe σ vs).set j (some x)) vs = wipe σ vs)
    (hs : ∀ (i : Nat) (x : V) (D : Addr) (acc : List V) (f : Fs), xs[i]? = some x → I i acc f →
      WT tt ((wipe σ vs).set j (some x)) H0 ((D, .lst acc) :: f) fun b f2 =>
        (b = true → W te ((wipe σ vs).set j (some x)) H0 f2 fun v f3 => ∃ m, f3[m]? = some (D, .lst acc) ∧ I (i + 1) (acc ++ [v]) (f3.eraseIdx m)) ∧
        (b = false → ∃ m, f2[m]? = some (D, .lst acc) ∧ I (i + 1) acc (f2.eraseIdx m)))
    (hd : ∀ D acc f, I xs.length acc f → Φ (.ref D) ((D, .lst acc) :: f)) : W (tLc (iList K tl) (gName j) tt te vs) σ H0 fs Φ := fun H k Q c =>
  h H k _ fun v f1 H1 k1 ⟨e, hr, hn, h0⟩ => by
    refine ⟨a, e, ⟨_, hr H1 k1⟩, fun D hD => ?_⟩
    refine lc_list (K := K) (a := a) (xs := xs) (fun i H' => ∃ acc f, Kn H0 ((D, .lst acc) :: f) H' ∧ I i acc f ∧ acc.length ≤ i) ⟨[], f1, k1.new hD, h0, Nat.le_refl _⟩ (fun i H' _ ⟨acc, f, p, hi, _⟩ => hl i acc f hi H' p.drop) (fun i x H' hx ⟨acc, f, p, hi, hlen⟩ => ?_) (fun H' ⟨acc, f, p, hi, _⟩ => c _ _ _ p (hd D acc f hi))
    obtain ⟨hlt, _⟩ := List.getElem?_eq_some_iff.mp hx
    refine ⟨hw _, ?_⟩
    show tt ((wipe σ vs).set j (some x)) H' _
    refine hs i x D acc f hx hi H' p _ fun b f2 H2 k2 ⟨ht, hf⟩ => ?_
    cases b with
    | true =>
      show te _ _ _
      refine ht rfl H2 k2 _ fun v f3 H3 k3 ⟨m, hm, hI⟩ => ?_
      have k4 := k3.front hm
      refine ⟨acc, k4.get (.head _), sz_lt (by omega), acc ++ [v], f3.eraseIdx m, k4.put (i := 0) rfl, hI, by simp; omega⟩
    | false =>
      obtain ⟨m, hm, hI⟩ := hf rfl
      exact ⟨acc, _, k2.front hm, hI, by omega⟩
/-- .. over a range -/
theorem W.lcRG {ta : TA} {n : Int} {j : Nat} {vs : List Nat} (I : Nat → List V → Fs → Prop)
    (h : WA ta σ H0 fs fun us f1 => us = [.int n] ∧ (n ≤ 100000 ∧ -100000 ≤ n) ∧ I 0 [] f1)
    (hw : ∀ x, wipe ((wipe σ vs).set j (some x)) vs = wipe σ vs)
    (hs : ∀ (i : Nat) (D : Addr) (acc : List V) (f : Fs), (i : Int) < n → I i acc f →
      WT tt ((wipe σ vs).set j (some (.int (i : Int)))) H0 ((D, .lst acc) :: f) fun b f2 =>
        (b = true → W te ((wipe σ vs).set j (some (.int (i : Int)))) H0 f2 fun v f3 => ∃ m, f3[m]? = some (D, .lst acc) ∧ I (i + 1) (acc ++ [v]) (f3.eraseIdx m)) ∧
        (b = false → ∃ m, f2[m]? = some (D, .lst acc) ∧ I (i + 1) acc (f2.eraseIdx m)))
    (hd : ∀ D acc f, I n.toNat acc f → Φ (.ref D) ((D, .lst acc) :: f)) : W (tLc (iRng1 ta) (gName j) tt te vs) σ H0 fs Φ := fun H k Q c =>
  h H k _ fun us f1 H1 k1 ⟨e, hn, h0⟩ => by
    refine ⟨n, e, by omega, by omega, fun D hD => ?_⟩
    refine lc_range (lo := 0) (n := n.toNat) (fun i H' => ∃ acc f, Kn H0 ((D, .lst acc) :: f) H' ∧ I i acc f ∧ acc.length ≤ i) ⟨[], f1, k1.new hD, h0, Nat.le_refl _⟩ (fun i H' hlt ⟨acc, f, p, hi, hlen⟩ => ?_) (fun H' ⟨acc, f, p, hi, _⟩ => c _ _ _ p (hd D acc f hi))
    have e0 : (0 : Int) + (i : Int) = (i : Int) := Int.zero_add _
    refine ⟨hw _, ?_⟩
    show tt ((wipe σ vs).set j (some (.int ((0 : Int) + (i : Int))))) H' _
    rw [e0]
    refine hs i D acc f (by omega) hi H' p _ fun b f2 H2 k2 ⟨ht, hf⟩ => ?_
    cases b with
    | true =>
      show te _ _ _
      refine ht rfl H2 k2 _ fun v f3 H3 k3 ⟨m, hm, hI⟩ => ?_
      have k4 := k3.front hm
      refine ⟨acc, k4.get (.head _), sz_lt (by omega), acc ++ [v], f3.eraseIdx m, k4.put (i := 0) rfl, hI, by simp; omega⟩
    | false =>
      obtain ⟨m, hm, hI⟩ := hf rfl
      exact ⟨acc, _, k2.front hm, hI, by omega⟩
/-- whole numbers that pass a test -/
theorem W.lcZf {ns : List Int} {j : Nat} {vs : List Nat} (p : Int → Bool)
    (h : W tl σ H0 fs fun v f1 => ∃ a, v = .ref a ∧ Rl K H0 f1 a (zV ns) ∧ ns.length ≤ 100000 ∧
      (∀ x, wipe ((wipe σ vs).set j (some x)) vs = wipe σ vs) ∧
      (∀ (x : Int) (D : Addr) (acc : List V), x ∈ ns → WT tt ((wipe σ vs).set j (some (.int x))) H0 ((D, .lst acc) :: f1) fun b f2 => b = p x ∧ f2 = (D, .lst acc) :: f1 ∧ (b = true → W te ((wipe σ vs).set j (some (.int x))) H0 f2 fun v f3 => v = .int x ∧ f3 = f2)) ∧
      ∀ D, Φ (.ref D) ((D, .lst (zV (ns.filter p))) :: f1)) : W (tLc (iList K tl) (gName j) tt te vs) σ H0 fs Φ := fun H k Q c =>
  h H k _ fun v f1 H1 k1 ⟨a, e, hr, hn, hw, hs, hd⟩ => by
    refine ⟨a, e, ⟨_, hr H1 k1⟩, fun D hD => ?_⟩
    refine lc_list (K := K) (a := a) (xs := zV ns) (fun i H' => Kn H0 ((D, .lst (zV ((ns.take i).filter p))) :: f1) H') (k1.new hD) (fun i H' _ p => hr H' p.drop) (fun i x H' hi q => ?_) (fun H' q => ?_)
    · obtain ⟨hl, e1⟩ := List.getElem?_eq_some_iff.mp hi
      rw [zV_length] at hl
      have e2 : x = .int ns[i] := by
        have := zV_get (ns := ns) (i := i) (x := ns[i]) (List.getElem?_eq_getElem hl)
        rw [hi] at this
        exact Option.some.inj this
      subst e2
      refine ⟨hw _, ?_⟩
      show tt ((wipe σ vs).set j (some (.int ns[i]))) H' _
      have hlen : ((ns.take i).filter p).length ≤ i := Nat.le_trans (List.length_filter_le _ _) (by rw [List.length_take]; omega)
      refine hs ns[i] D _ (List.getElem_mem hl) H' q _ fun b f2 H2 k2 ⟨eb, ef, ht⟩ => ?_
      subst eb ef
      have et : ns.take (i + 1) = ns.take i ++ [ns[i]] := by
        rw [List.take_add_one, List.getElem?_eq_getElem hl]; rfl
      cases hb : p ns[i] with
      | true =>
        show te _ _ _
        refine ht hb H2 k2 _ fun v f3 H3 k3 ⟨ev, ef⟩ => ?_
        subst ev ef
        refine ⟨_, k3.get (.head _), sz_lt (by rw [zV_length]; omega), ?_⟩
        have k4 := k3.put (i := 0) (o' := .lst (zV ((ns.take i).filter p) ++ [.int ns[i]])) rfl
        rw [et, List.filter_append, List.filter_cons_of_pos hb, ← zV_app]
        exact k4
      | false =>
        show Kn H0 ((D, .lst (zV ((ns.take (i + 1)).filter p))) :: f1) H2
        rw [et, List.filter_append, List.filter_cons_of_neg (by rw [hb]; exact Bool.false_ne_true), List.filter_nil, List.append_nil]
        exact k2
    · rw [zV_length, List.take_length] at q
      exact c _ _ _ q (hd D)
end
end Pa
namespace Pa
open PySem PySem.Spec PyProof.Rows L2
theorem ix_listK {X : Cx} {K : PySem.W.Frag} (h : X.K = K) : IxR X (rIxL K) := by subst h; exact ix_list
theorem ix_tupK {X : Cx} {K : PySem.W.Frag} (h : X.K = K) : IxR X (rIxT K) := by subst h; exact ix_tup
theorem N.swap {e : St → Hp → Prop} {σ : St} {H0 : Hp} {x y : Addr × HO} {fs : Fs} (h : N e σ H0 (y :: x :: fs)) : N e σ H0 (x :: y :: fs) := fun H k => h H k.swap
/-! ### is None -/
def rIsNon : R2 := fun x y H Q => y = .non ∧ Q (.bl (decide (x = .non))) H
def rNotNon : R2 := fun x y H Q => y = .non ∧ Q (.bl (!decide (x = .non))) H
theorem op_isNo {X : Cx} : OpR X (compareOp .Is) rIsNon := op_isN
theorem op_notNo {X : Cx} : OpR X (compareOp .IsNot) rNotNon := op_notN
section
variable {H0 : Hp} {fs : Fs} {Φ : CV} {p : Addr}
theorem RW.isNoR (q : Φ (.bl false) fs) : RW rIsNon (.ref p) .non H0 fs Φ := fun H k _ c => ⟨rfl, c _ fs H k q⟩
theorem RW.isNoN (q : Φ (.bl true) fs) : RW rIsNon .non .non H0 fs Φ := fun H k _ c => ⟨rfl, c _ fs H k q⟩
theorem RW.notNoR (q : Φ (.bl true) fs) : RW rNotNon (.ref p) .non H0 fs Φ := fun H k _ c => ⟨rfl, c _ fs H k q⟩
theorem RW.notNoN (q : Φ (.bl false) fs) : RW rNotNon .non .non H0 fs Φ := fun H k _ c => ⟨rfl, c _ fs H k q⟩
end
end Pa

namespace Pa

/-! ### rows of numbers without end, as a ring -/
def Ser : Type := Nat → Int
namespace Ser
@[ext] theorem ext {f g : Ser} (h : ∀ n, f n = g n) : f = g := funext h
def tail (f : Ser) : Ser := fun n => f (n + 1)
def sm (a : Int) (f : Ser) : Ser := fun n => a * f n
def mulC (f g : Ser) : Nat → Int
  | 0 => f 0 * g 0
  | n + 1 => f 0 * g (n + 1) + mulC (tail f) g n
def mul (f g : Ser) : Ser := fun n => mulC f g n
def C (a : Int) : Ser := fun n => if n = 0 then a else 0
instance : Zero Ser := ⟨C 0⟩
instance : One Ser := ⟨C 1⟩
instance : Add Ser := ⟨fun f g n => f n + g n⟩
instance : Neg Ser := ⟨fun f n => -f n⟩
instance : Sub Ser := ⟨fun f g n => f n - g n⟩
instance : Mul Ser := ⟨mul⟩
instance : NatCast Ser := ⟨fun n => C n⟩
instance : IntCast Ser := ⟨fun n => C n⟩
instance : SMul Nat Ser := ⟨fun k f => sm (k : Int) f⟩
instance : SMul Int Ser := ⟨fun k f => sm k f⟩
instance (n : Nat) : OfNat Ser n := ⟨C n⟩
def npow (f : Ser) : Nat → Ser
  | 0 => 1
  | n + 1 => npow f n * f
instance : HPow Ser Nat Ser := ⟨npow⟩
theorem C_zero (a : Int) : C a 0 = a := rfl
theorem C_succ (a : Int) (n : Nat) : C a (n + 1) = 0 := rfl
theorem zero_at (n : Nat) : (0 : Ser) n = 0 := by
  cases n with
  | zero => rfl
  | succ n => rfl
theorem add_at (f g : Ser) (n : Nat) : (f + g) n = f n + g n := rfl
theorem neg_at (f : Ser) (n : Nat) : (-f) n = -f n := rfl
theorem sub_at (f g : Ser) (n : Nat) : (f - g) n = f n - g n := rfl
theorem sm_at (a : Int) (f : Ser) (n : Nat) : (sm a f) n = a * f n := rfl
theorem tail_at (f : Ser) (n : Nat) : tail f n = f (n + 1) := rfl
theorem mul_zero_at (f g : Ser) : (f * g) 0 = f 0 * g 0 := rfl
theorem mul_succ_at (f g : Ser) (n : Nat) : (f * g) (n + 1) = f 0 * g (n + 1) + (tail f * g) n := rfl
theorem tail_add (f g : Ser) : tail (f + g) = tail f + tail g := rfl
theorem tail_sm (a : Int) (f : Ser) : tail (sm a f) = sm a (tail f) := rfl
theorem tail_mul (f g : Ser) : tail (f * g) = sm (f 0) (tail g) + tail f * g := rfl
theorem tail_C (a : Int) : tail (C a) = 0 := ext fun n => by rw [zero_at]; rfl
theorem tail_zero : tail 0 = 0 := tail_C 0
theorem zero_mul_at (g : Ser) (n : Nat) : ((0 : Ser) * g) n = 0 := by
  induction n with
  | zero => rw [mul_zero_at, zero_at, Int.zero_mul]
  | succ n ih => rw [mul_succ_at, zero_at, Int.zero_mul, tail_zero, ih]; rfl
theorem add_mul_at (f g h : Ser) (n : Nat) : ((f + g) * h) n = (f * h) n + (g * h) n := by
  induction n generalizing f g with
  | zero => rw [mul_zero_at, mul_zero_at, mul_zero_at, add_at, Int.add_mul]
  | succ n ih => rw [mul_succ_at, mul_succ_at, mul_succ_at, tail_add, ih, add_at, Int.add_mul]; omega
theorem sm_mul_at (a : Int) (f h : Ser) (n : Nat) : (sm a f * h) n = a * (f * h) n := by
  induction n generalizing f with
  | zero => rw [mul_zero_at, mul_zero_at, sm_at, Int.mul_assoc]
  | succ n ih => rw [mul_succ_at, mul_succ_at, tail_sm, ih, sm_at, Int.mul_assoc, Int.mul_add]
/-- the other recursion -/
theorem mul_succ_at' (f g : Ser) (n : Nat) : (f * g) (n + 1) = (f * tail g) n + f (n + 1) * g 0 := by
  induction n generalizing f with
  | zero => rw [mul_succ_at, mul_zero_at, mul_zero_at]; rfl
  | succ n ih =>
    rw [mul_succ_at, ih (tail f), mul_succ_at f (tail g), tail_at, tail_at]
    omega
theorem mul_comm_at (f g : Ser) (n : Nat) : (f * g) n = (g * f) n := by
  induction n generalizing f g with
  | zero => rw [mul_zero_at, mul_zero_at]; exact Int.mul_comm _ _
  | succ n ih =>
    rw [mul_succ_at' g f, ← ih (tail f) g, mul_succ_at, Int.mul_comm (f 0), Int.add_comm]
theorem mul_comm' (f g : Ser) : f * g = g * f := ext fun n => mul_comm_at f g n
theorem mul_assoc' (f g h : Ser) : f * g * h = f * (g * h) := by
  refine ext fun n => ?_
  induction n generalizing f with
  | zero => rw [mul_zero_at, mul_zero_at, mul_zero_at, mul_zero_at, Int.mul_assoc]
  | succ n ih =>
    rw [mul_succ_at, tail_mul, add_mul_at, sm_mul_at, ih (tail f), mul_succ_at f, mul_succ_at g, mul_zero_at, Int.mul_add, Int.mul_assoc]
    omega
theorem C_mul (a : Int) (f : Ser) (n : Nat) : (C a * f) n = a * f n := by
  cases n with
  | zero => rfl
  | succ n => rw [mul_succ_at, C_zero, tail_C, zero_mul_at, Int.add_zero]
theorem one_mul' (f : Ser) : 1 * f = f := ext fun n => by
  show (C 1 * f) n = f n
  rw [C_mul, Int.one_mul]
theorem one_eq : (1 : Ser) = C 1 := rfl
theorem zero_eq : (0 : Ser) = C 0 := rfl
theorem C_add (a b : Int) : C (a + b) = C a + C b := ext fun n => by
  cases n with
  | zero => rfl
  | succ n => rfl
theorem C_neg (a : Int) : C (-a) = -C a := ext fun n => by
  cases n with
  | zero => rfl
  | succ n => rfl
theorem C_sub (a b : Int) : C (a - b) = C a - C b := ext fun n => by
  cases n with
  | zero => rfl
  | succ n => rfl
theorem C_mulC (a b : Int) : C (a * b) = C a * C b := ext fun n => by
  rw [C_mul]
  cases n with
  | zero => rfl
  | succ n => rw [C_succ, C_succ, Int.mul_zero]
theorem C_inj {a b : Int} (h : C a = C b) : a = b := congrFun h 0
theorem sm_eq (a : Int) (f : Ser) : sm a f = C a * f := ext fun n => (C_mul a f n).symm
instance : Lean.Grind.CommRing Ser where
  add_zero f := ext fun n => by rw [add_at, zero_at, Int.add_zero]
  add_comm f g := ext fun n => Int.add_comm _ _
  add_assoc f g h := ext fun n => Int.add_assoc _ _ _
  mul_assoc := mul_assoc'
  mul_one f := by rw [mul_comm']; exact one_mul' f
  one_mul := one_mul'
  left_distrib f g h := by
    rw [mul_comm', mul_comm' f g, mul_comm' f h]
    exact ext fun n => add_mul_at g h f n
  right_distrib f g h := ext fun n => add_mul_at f g h n
  zero_mul f := ext fun n => by rw [zero_at, zero_mul_at]
  mul_zero f := by
    rw [mul_comm']
    exact ext fun n => by rw [zero_at, zero_mul_at]
  pow_zero f := rfl
  pow_succ f n := rfl
  nsmul_eq_natCast_mul k f := sm_eq k f
  ofNat_succ k := by
    show C ((k + 1 : Nat) : Int) = C (k : Int) + C 1
    rw [← C_add]; rfl
  ofNat_eq_natCast k := rfl
  neg_add_cancel f := ext fun n => by rw [add_at, neg_at, zero_at, Int.add_left_neg]
  sub_eq_add_neg f g := ext fun n => rfl
  neg_zsmul i f := ext fun n => Int.neg_mul _ _
  zsmul_natCast_eq_nsmul k f := rfl
  intCast_ofNat k := rfl
  intCast_neg k := C_neg k
  mul_comm := mul_comm'

example (a b : Ser) : (a + b) * (a - b) = a * a - b * b := by grind
example (a b c d : Ser) (h : a * b = c) (h2 : c = d * a) : a * b * b = d * a * b := by grind
end Ser
end Pa

namespace Pa
open Ser

/-! ### rows as series -/
def S (xs : List Int) : Ser := fun i => xs.getD i 0
theorem S_at (xs : List Int) (i : Nat) : S xs i = xs.getD i 0 := rfl
theorem S_out {xs : List Int} {i : Nat} (h : xs.length ≤ i) : S xs i = 0 := by
  rw [S_at, List.getD_eq_getElem?_getD, List.getElem?_eq_none h]; rfl
theorem S_nil : S [] = 0 := Ser.ext fun n => by rw [S_at, zero_at]; rfl
theorem getD_app_zeros (xs : List Int) (k i : Nat) : (xs ++ List.replicate k 0).getD i 0 = xs.getD i 0 := by
  rw [List.getD_eq_getElem?_getD, List.getD_eq_getElem?_getD, List.getElem?_append]
  split
  · rfl
  · rename_i h
    rw [List.getElem?_eq_none (by omega : xs.length ≤ i), List.getElem?_replicate]
    split <;> rfl
theorem S_trim (xs : List Int) : S (trim xs) = S xs := Ser.ext fun n => by
  obtain ⟨k, e, _⟩ := trim_cases xs
  rw [S_at, S_at]
  conv => rhs; rw [e]
  rw [getD_app_zeros]
theorem getD_map_range (n : Nat) (f : Nat → Int) (i : Nat) : ((List.range n).map f).getD i 0 = if i < n then f i else 0 := by
  rw [List.getD_eq_getElem?_getD, List.getElem?_map]
  by_cases h : i < n
  · rw [if_pos h, List.getElem?_range h]; rfl
  · rw [if_neg h, List.getElem?_eq_none (by simp; omega)]; rfl
theorem S_plus (xs ys : List Int) : S (plus xs ys) = S xs + S ys := by
  unfold plus
  rw [S_trim]
  refine Ser.ext fun n => ?_
  rw [S_at, getD_map_range, add_at]
  split
  · rw [gat_nat, gat_nat]; rfl
  · rw [S_out (by omega), S_out (by omega)]; rfl
theorem S_minus (xs ys : List Int) : S (minus xs ys) = S xs - S ys := by
  unfold minus
  rw [S_trim]
  refine Ser.ext fun n => ?_
  rw [S_at, getD_map_range, sub_at]
  split
  · rw [gat_nat, gat_nat]; rfl
  · rw [S_out (by omega), S_out (by omega)]; rfl
theorem S_map_mul (xs : List Int) (m : Int) : S (xs.map fun x => m * x) = C m * S xs := Ser.ext fun n => by
  rw [S_at, C_mul, S_at, List.getD_eq_getElem?_getD, List.getD_eq_getElem?_getD, List.getElem?_map]
  cases xs[n]? with
  | none => exact (Int.mul_zero m).symm
  | some x => rfl
theorem S_scaled (xs : List Int) (m : Int) : S (scaled xs m) = C m * S xs := by
  unfold scaled
  rw [S_trim, S_map_mul]
/-- the letter -/
def X : Ser := fun n => if n = 1 then 1 else 0
theorem tail_X : tail X = 1 := Ser.ext fun n => by
  cases n with
  | zero => rfl
  | succ n => rfl
theorem X_mul_zero (f : Ser) : (X * f) 0 = 0 := by rw [mul_zero_at]; exact Int.zero_mul _
theorem X_mul_succ (f : Ser) (n : Nat) : (X * f) (n + 1) = f n := by
  rw [mul_succ_at, tail_X, one_mul', show X 0 = 0 from rfl, Int.zero_mul, Int.zero_add]
theorem S_cons (a : Int) (r : List Int) : S (a :: r) = C a + X * S r := Ser.ext fun n => by
  cases n with
  | zero => rw [add_at, X_mul_zero]; exact (Int.add_zero a).symm
  | succ n => rw [add_at, X_mul_succ, C_succ, Int.zero_add]; rfl
theorem S_one (a : Int) : S [a] = C a := by
  rw [S_cons, S_nil]; grind
theorem X_pow_mul (j : Nat) (f : Ser) (i : Nat) : (X ^ j * f) i = if j ≤ i then f (i - j) else 0 := by
  induction j generalizing i with
  | zero =>
    have : X ^ 0 * f = f := by grind
    rw [this, if_pos (Nat.zero_le _)]; rfl
  | succ j ih =>
    have : X ^ (j + 1) * f = X * (X ^ j * f) := by grind
    rw [this]
    cases i with
    | zero => rw [X_mul_zero, if_neg (by omega)]
    | succ i =>
      rw [X_mul_succ, ih]
      by_cases h : j ≤ i
      · rw [if_pos h, if_pos (by omega), Nat.add_sub_add_right]
      · rw [if_neg h, if_neg (by omega)]
theorem S_app (xs ys : List Int) : S (xs ++ ys) = S xs + X ^ xs.length * S ys := by
  induction xs with
  | nil =>
    show S ys = S [] + X ^ 0 * S ys
    rw [S_nil]; grind
  | cons a r ih =>
    rw [List.cons_append, S_cons, ih, S_cons, List.length_cons]
    grind
theorem S_snoc (xs : List Int) (a : Int) : S (xs ++ [a]) = S xs + C a * X ^ xs.length := by
  rw [S_app, S_one]; grind
theorem S_take_succ {xs : List Int} {n : Nat} (h : n < xs.length) : S (xs.take (n + 1)) = S (xs.take n) + C (xs.getD n 0) * X ^ n := by
  rw [take_succ_getD h, S_snoc, List.length_take, Nat.min_eq_left (Nat.le_of_lt h)]

theorem S_set {acc : List Int} {i : Nat} (h : i < acc.length) (v : Int) : S (acc.set i (acc.getD i 0 + v)) = S acc + C v * X ^ i := Ser.ext fun n => by
  rw [S_at, getD_set, add_at, C_mul]
  have e : (X ^ i : Ser) = X ^ i * 1 := by grind
  rw [e, X_pow_mul]
  by_cases hn : i = n
  · subst hn
    rw [if_pos rfl, if_pos h, if_pos (Nat.le_refl _), Nat.sub_self]
    show _ = _ + v * 1
    rw [Int.mul_one]; rfl
  · rw [if_neg hn]
    by_cases hl : i ≤ n
    · rw [if_pos hl]
      obtain ⟨k, hk⟩ : ∃ k, n - i = k + 1 := ⟨n - i - 1, by omega⟩
      rw [hk]
      show _ = _ + v * 0
      rw [Int.mul_zero, Int.add_zero]; rfl
    · rw [if_neg hl, Int.mul_zero, Int.add_zero]; rfl
theorem S_row {x : Int} {ys : List Int} {j : Nat} {acc : List Int} : ∀ n : Nat, n ≤ ys.length → j + n ≤ acc.length → S (lp (tmIn x ys j) n acc) = S acc + C x * X ^ j * S (ys.take n)
  | 0, _, _ => by
    show S acc = _
    rw [List.take_zero, S_nil]; grind
  | n + 1, h1, h2 => by
    have ih := S_row (x := x) (ys := ys) (j := j) (acc := acc) n (by omega) (by omega)
    show S ((lp (tmIn x ys j) n acc).set (j + n) ((lp (tmIn x ys j) n acc).getD (j + n) 0 + x * ys.getD n 0)) = _
    rw [S_set (by rw [lp_len (fun i a => tmIn_len _ _ _ _ _)]; omega), ih, S_take_succ (by omega), C_mulC]
    have e : (X ^ (j + n) : Ser) = X ^ j * X ^ n := by grind
    rw [e]
    grind
theorem S_zeros (n : Nat) : S (List.replicate n 0) = 0 := Ser.ext fun i => by rw [S_at, getD_replicate, zero_at]
theorem S_raw {xs ys : List Int} : ∀ n : Nat, n ≤ xs.length → S (lp (tmRow xs ys) n (List.replicate (xs.length + ys.length) 0)) = S (xs.take n) * S ys
  | 0, _ => by
    show S (List.replicate (xs.length + ys.length) 0) = _
    rw [S_zeros, List.take_zero, S_nil]; grind
  | n + 1, h => by
    have ih := S_raw (xs := xs) (ys := ys) n (by omega)
    show S (lp (tmIn (xs.getD n 0) ys n) ys.length _) = _
    rw [S_row ys.length (Nat.le_refl _) (by rw [lp_len (fun i a => tmRow_len _ _ _ _), List.length_replicate]; omega), ih, S_take_succ (by omega), List.take_length]
    grind
theorem S_tm (xs ys : List Int) : S (tm xs ys) = S xs * S ys := by
  unfold tm
  rw [S_trim]
  unfold tmRaw
  rw [S_raw xs.length (Nat.le_refl _), List.take_length]
theorem S_pw (xs : List Int) : ∀ n : Nat, S (pw xs n) = S xs ^ n
  | 0 => by
    show S [1] = _
    rw [S_one, ← one_eq]; grind
  | n + 1 => by
    show S (tm (pw xs n) xs) = _
    rw [S_tm, S_pw xs n]; grind
/-- trimmed rows are told by their series -/
theorem S_inj {xs ys : List Int} (hx : Tr xs) (hy : Tr ys) (h : S xs = S ys) : xs = ys := by
  have key : ∀ {xs ys : List Int}, Tr xs → S xs = S ys → xs.length ≤ ys.length := fun {xs ys} hx h => by
    rcases snoc_cases xs with rfl | ⟨zs, z, rfl⟩
    · exact Nat.zero_le _
    · refine Nat.le_of_not_lt fun hl => ?_
      rw [List.length_append, List.length_singleton] at hl
      have hz := tr_last hx (by simp)
      rw [List.getLast_append] at hz
      have e := congrFun h zs.length
      rw [S_out (xs := ys) (by omega), S_at, List.getD_eq_getElem?_getD] at e
      simp at e hz
      exact hz e
  have l1 := key hx h
  have l2 := key hy h.symm
  refine List.ext_getElem (Nat.le_antisymm l1 l2) fun i h1 h2 => ?_
  have e := congrFun h i
  rw [S_at, S_at, List.getD_eq_getElem?_getD, List.getD_eq_getElem?_getD, List.getElem?_eq_getElem h1, List.getElem?_eq_getElem h2] at e
  exact e
theorem tm_comm (xs ys : List Int) : tm xs ys = tm ys xs := S_inj (tm_tr _ _) (tm_tr _ _) (by rw [S_tm, S_tm]; grind)
theorem plus_tr (xs ys : List Int) : Tr (plus xs ys) := tr_trim _
theorem minus_tr (xs ys : List Int) : Tr (minus xs ys) := tr_trim _
theorem scaled_tr (xs : List Int) (m : Int) : Tr (scaled xs m) := tr_trim _
theorem S_zero_nil {xs : List Int} (hx : Tr xs) (h : S xs = 0) : xs = [] := S_inj hx tr_nil (by rw [h, S_nil])

/-! ### one in the other's letter -/
def pin (ys : List Int) : List Int → List Int
  | [] => []
  | a :: r => plus (tm (pin ys r) ys) [a]
def sub (G : Ser) : List Int → Ser
  | [] => 0
  | a :: r => C a + sub G r * G
theorem S_pin (ys : List Int) : ∀ xs : List Int, S (pin ys xs) = sub (S ys) xs
  | [] => S_nil
  | a :: r => by
    show S (plus (tm (pin ys r) ys) [a]) = C a + sub (S ys) r * S ys
    rw [S_plus, S_tm, S_one, S_pin ys r]; grind
theorem sub_snoc (G : Ser) (xs : List Int) (a : Int) : sub G (xs ++ [a]) = sub G xs + C a * G ^ xs.length := by
  induction xs with
  | nil =>
    show C a + 0 * G = 0 + C a * G ^ 0
    grind
  | cons b r ih =>
    show C b + sub G (r ++ [a]) * G = C b + sub G r * G + C a * G ^ (r.length + 1)
    rw [ih]; grind
theorem pin_tr (ys : List Int) : ∀ xs : List Int, Tr (pin ys xs)
  | [] => tr_nil
  | a :: r => plus_tr _ _
theorem pin_len (ys : List Int) : ∀ xs : List Int, (pin ys xs).length ≤ xs.length * (ys.length + 1)
  | [] => Nat.zero_le _
  | a :: r => by
    have ih := pin_len ys r
    have h1 := plus_len (tm (pin ys r) ys) [a]
    have h2 := tm_len (pin ys r) ys
    show (plus (tm (pin ys r) ys) [a]).length ≤ (r.length + 1) * (ys.length + 1)
    rw [Nat.succ_mul]
    simp only [List.length_singleton] at h1
    omega
theorem pin_bd {ys : List Int} {a b c : Nat} (hy : BdL b ys) : ∀ xs : List Int, BdL a xs → xs.length * (ys.length + 1) ≤ 2 ^ c → BdL (a + xs.length * (b + c + 1)) (pin ys xs)
  | [], _, _ => BdL.nil
  | x :: r, hx, hl => by
    have hl' : (r.length + 1) * (ys.length + 1) ≤ 2 ^ c := hl
    rw [Nat.succ_mul] at hl'
    have ih := pin_bd (a := a) (c := c) hy r (fun y h => hx y (List.mem_cons_of_mem _ h)) (by omega)
    have h1 := tm_bd (c := c) ih hy (by have := pin_len ys r; omega)
    have h2 : BdL a [x] := fun y h => hx y (by rw [List.mem_singleton.mp h]; exact List.mem_cons_self)
    have h3 := plus_bd h1 (h2.mono (show a ≤ a + r.length * (b + c + 1) + b + c by omega))
    refine h3.mono ?_
    show _ ≤ a + (r.length + 1) * (b + c + 1)
    rw [Nat.succ_mul]; omega
/-! ### the law's own way of adding up -/
def due (ys : List Int) : Nat → List Int → List Int × List Int
  | 0, _ => ([], [1])
  | n + 1, xs => (plus (due ys n xs).1 (tm [xs.getD n 0] (due ys n xs).2), tm (due ys n xs).2 ys)
theorem due_pw (ys : List Int) (xs : List Int) : ∀ n, (due ys n xs).2 = pw ys n
  | 0 => rfl
  | n + 1 => by
    show tm (due ys n xs).2 ys = tm (pw ys n) ys
    rw [due_pw]
theorem S_due (ys xs : List Int) : ∀ n, n ≤ xs.length → S (due ys n xs).1 = sub (S ys) (xs.take n)
  | 0, _ => by rw [List.take_zero]; exact S_nil
  | n + 1, h => by
    show S (plus (due ys n xs).1 (tm [xs.getD n 0] (due ys n xs).2)) = _
    rw [S_plus, S_tm, S_one, due_pw, S_pw, S_due ys xs n (by omega), take_succ_getD (by omega), sub_snoc, List.length_take, Nat.min_eq_left (by omega)]
theorem due_tr (ys xs : List Int) (n : Nat) : Tr (due ys n xs).1 := by
  cases n with
  | zero => exact tr_nil
  | succ n => exact plus_tr _ _
theorem due_eq (ys xs : List Int) : (due ys xs.length xs).1 = pin ys xs := S_inj (due_tr _ _ _) (pin_tr _ _) (by rw [S_due _ _ _ (Nat.le_refl _), List.take_length, S_pin])
end Pa

namespace Pa
open PySem PySem.Spec PyProof.Rows L2

/-! ### texts as rows of codes -/
abbrev tx (l : List Nat) : Str := ⟨l.toArray⟩
theorem tx_len (l : List Nat) : (tx l).length = l.length := SX.S_len l
theorem tx_inj {a b : List Nat} (h : tx a = tx b) : a = b := SX.S_inj h
theorem dec_tx (a b : List Nat) : decide (tx a = tx b) = decide (a = b) := by
  by_cases h : a = b
  · subst h; rw [decide_eq_true rfl, decide_eq_true rfl]
  · rw [decide_eq_false h, decide_eq_false fun z => h (tx_inj z)]
theorem pe_strL {X : Cx} {x : Str} {j pos} {l : List Nat} (h : x = tx l) : PE X (.Constant (.str x) j pos) (tC (.str (tx l))) := by
  subst h; exact pe_str
/-- texts of codes, put together -/
def rAddS : R2 := fun x y H Q => ∃ i j, x = .str i ∧ y = .str j ∧ i.length + j.length ≤ sizeLine ∧ Q (.str (i ++ j)) H
theorem op_addX {X : Cx} : OpR X (binaryOp .Add) rAddS := op_add_str
def rStrI : List V → Hp → VK → Prop := fun xs H Q => ∃ i : Int, xs = [.int i] ∧ i.natAbs.log2 < 1920 ∧ Q (.str (toString i)) H
theorem cStr {X : Cx} : CallR X (.type "str") rStrI := call_str_int
def rIntS : List V → Hp → VK → Prop := fun xs H Q => ∃ a n, xs = [.str a] ∧ PySem.intText? a = some n ∧ a.length ≤ 640 ∧ Q (.int n) H
theorem cInt {X : Cx} : CallR X (.type "int") rIntS := call_int_str
theorem sl_strR {X : Cx} : SlR X C8.rSlX := C8.sl_txt
def rIndexS : V → List V → Hp → VK → Prop := fun x xs H Q => ∃ a b i rest, x = .str a ∧ xs = [.str b] ∧ Builtin.Str.occurrences a b 0 a.length 1 = i :: rest ∧ Q (.int (i : Nat)) H
theorem mt_index {X : Cx} : MtR X "str.index" rIndexS := mt_sindex
def rSplitS : V → List V → Hp → VK → Prop := fun x xs H Q => ∃ a b, x = .str a ∧ xs = [.str b] ∧ (b.length == 0) = false ∧ a.length + 2 ≤ sizeLine ∧ rNewStrs (PySem.Txt.split a b) H Q
theorem mt_splitR {X : Cx} : MtR X "str.split" rSplitS := mt_split
section
variable {σ : St} {H0 : Hp} {fs : Fs} {Φ : CV} {ta tb te : TE} {K : PySem.W.Frag} {D : Ends} {ts : TS}
theorem RW.addS {a b : List Nat} (h : a.length + b.length ≤ 1000000) (q : Φ (.str (tx (a ++ b))) fs) : RW rAddS (.str (tx a)) (.str (tx b)) H0 fs Φ := fun H k _ c =>
  ⟨tx a, tx b, rfl, rfl, by rw [tx_len, tx_len]; exact sz_le h, by
    have e : tx a ++ tx b = tx (a ++ b) := SX.S_cat a b
    rw [e]; exact c _ fs H k q⟩
theorem RW.eqL {a b : List Nat} (q : Φ (.bl (decide (a = b))) fs) : RW rEq (.str (tx a)) (.str (tx b)) H0 fs Φ := RW.eqS (by rw [dec_tx]; exact q)
theorem RW.neL {a b : List Nat} (q : Φ (.bl (!decide (a = b))) fs) : RW rNe (.str (tx a)) (.str (tx b)) H0 fs Φ := RW.neS (by rw [dec_tx]; exact q)
theorem RW.inL {c : Nat} {a : List Nat} (q : Φ (.bl (decide (c ∈ a))) fs) : RW rInS (.str (tx [c])) (.str (tx a)) H0 fs Φ := fun H k _ cc => ⟨c, tx a, rfl, rfl, cc _ fs H k q⟩
theorem RW.notInL {c : Nat} {a : List Nat} (q : Φ (.bl (!decide (c ∈ a))) fs) : RW rNotInS (.str (tx [c])) (.str (tx a)) H0 fs Φ := fun H k _ cc => ⟨c, tx a, rfl, rfl, cc _ fs H k q⟩
theorem RW.ixC {a : List Nat} {i : Int} {c : Nat} (hl : a.length ≤ 1000000) (h : atI a i = some c) (q : Φ (.str (tx [c])) fs) : RW rIxS (.str (tx a)) (.int i) H0 fs Φ := fun H k _ cc =>
  ⟨tx a, i, c, rfl, rfl, by rw [tx_len]; exact sz_le hl, h, cc _ fs H k q⟩
theorem RS.takeS {a : List Nat} {i : Int} (h : 0 ≤ i) (hl : a.length ≤ 1000000) (q : Φ (.str (tx (a.take i.toNat))) fs) : RS C8.rSlX (.str (tx a)) none (some i) H0 fs Φ := fun H k _ cc =>
  ⟨tx a, rfl, by rw [tx_len]; exact sz_le hl, by
    have e : PySem.Txt.slice (tx a) none (some i) = tx (a.take i.toNat) := SX.slice_to h
    rw [e]; exact cc _ fs H k q⟩
theorem RS.dropS {a : List Nat} {i : Int} (h : 0 ≤ i) (hl : a.length ≤ 1000000) (q : Φ (.str (tx (a.drop i.toNat))) fs) : RS C8.rSlX (.str (tx a)) (some i) none H0 fs Φ := fun H k _ cc =>
  ⟨tx a, rfl, by rw [tx_len]; exact sz_le hl, by
    have e : PySem.Txt.slice (tx a) (some i) none = tx (a.drop i.toNat) := SX.slice_from h
    rw [e]; exact cc _ fs H k q⟩
theorem RC.strI {n : Nat} (h : n.log2 < 1920) (q : Φ (.str (tx (TL.numL n))) fs) : RC rStrI [.int (n : Int)] H0 fs Φ := fun H k _ c =>
  ⟨(n : Int), rfl, by rw [Int.natAbs_natCast]; exact h, by
    have e : Str.ofString (toString ((n : Nat) : Int)) = tx (TL.numL n) := SX.num_S n
    rw [e]; exact c _ fs H k q⟩
theorem RC.lenX {a : List Nat} (h : a.length ≤ 1000000) (q : Φ (.int (a.length : Int)) fs) : RC rLenS [.str (tx a)] H0 fs Φ := RC.lenS (by rw [tx_len]; exact h) (by rw [tx_len]; exact q)
theorem W.m1 {to : TE} {r : V → List V → Hp → VK → Prop} (h : W to σ H0 fs fun x f1 => (∃ a, x = .str a) ∧ W te σ H0 f1 fun y f2 => RM r x [y] H0 f2 Φ) : W (tM1 r to te) σ H0 fs Φ := fun H k Q c =>
  h H k _ fun _ _ H1 k1 ⟨e, h1⟩ => ⟨e, h1 H1 k1 _ fun _ _ H2 k2 h2 => h2 H2 k2 Q c⟩
theorem occ_at {c : Nat} {p : List Nat} (q : List Nat) (h : c ∉ p) : ∃ rest, Builtin.Str.occurrences (tx (p ++ c :: q)) (tx [c]) 0 (tx (p ++ c :: q)).length 1 = p.length :: rest := by
  have hat : ∀ i, StrLaws.At (tx (p ++ c :: q)) (tx [c]) (tx (p ++ c :: q)).length i ↔ TL.pre [c] ((p ++ c :: q).drop i) = true := fun i => TL.at_iff (x := tx (p ++ c :: q)) (y := tx [c]) (by exact List.cons_ne_nil _ _) i
  have here : TL.pre [c] ((p ++ c :: q).drop p.length) = true := by
    rw [List.drop_left]; unfold TL.pre; simp
  rcases StrLaws.occ_head (tx (p ++ c :: q)) (tx [c]) 1 (Nat.le_refl 1) with ⟨_, hn⟩ | ⟨i, r, e, ha, hn⟩
  · exact absurd ((hat p.length).mpr here) (hn _)
  · have h1 : ¬ p.length < i := fun z => hn _ z ((hat _).mpr here)
    have h2 : ¬ i < p.length := fun z => by
      have := (hat i).mp ha
      rw [List.drop_append_of_le_length (Nat.le_of_lt z), List.drop_eq_getElem_cons z] at this
      have t2 : p[i] :: List.take 0 (p.drop (i + 1) ++ c :: q) = [c] := eq_of_beq this
      exact h ((List.cons.inj t2).1 ▸ List.getElem_mem z)
    have e2 : i = p.length := by omega
    subst e2
    exact ⟨r, e⟩
theorem RM.indexL {c : Nat} {p : List Nat} {q : List Nat} (h : c ∉ p) (qq : Φ (.int (p.length : Int)) fs) : RM rIndexS (.str (tx (p ++ c :: q))) [.str (tx [c])] H0 fs Φ := fun H k _ cc => by
  obtain ⟨rest, e⟩ := occ_at q h
  exact ⟨_, _, _, rest, rfl, rfl, e, cc _ fs H k qq⟩
/-- a list of texts -/
def sV (ws : List (List Nat)) : List V := ws.map fun l => V.str (tx l)
theorem sV_length (ws : List (List Nat)) : (sV ws).length = ws.length := List.length_map _
theorem atI_sV {ws : List (List Nat)} {i : Nat} {l : List Nat} (h : ws[i]? = some l) : atI (sV ws) (i : Int) = some (.str (tx l)) := by
  refine atI_nat ?_
  unfold sV
  rw [List.getElem?_map, h]; rfl
theorem RM.splitL {a : List Nat} {c : Nat} (hc : c < 256) (hl : a.length ≤ 900000) (q : ∀ p, Φ (.ref p) ((p, .lst (sV (TL.spl [c] 0 [] a))) :: fs)) : RM rSplitS (.str (tx a)) [.str (tx [c])] H0 fs Φ := fun H k _ cc =>
  ⟨tx a, tx [c], rfl, rfl, rfl, by rw [tx_len]; exact sz_le (by omega), fun p hp => by
    have e : PySem.Txt.split (tx a) (tx [c]) = (TL.spl [c] 0 [] a).map tx := SX.split_S (List.cons_ne_nil _ _) (by simpa using hc)
    rw [e, List.map_map]
    exact cc _ _ _ (k.new hp) (q p)⟩
/-- over the signs of a text -/
theorem S.forS {a : List Nat} {j : Nat} (I : Nat → St → Fs → Prop)
    (h : W te σ H0 fs fun v f1 => v = .str (tx a) ∧ I 0 σ f1)
    (hs : ∀ (i : Nat) (c : Nat) σ' f', a[i]? = some c → I i σ' f' → N (ts { D with nx := Lp H0 I (i + 1), ct := Lp H0 I (i + 1), bk := D.nx }) (σ'.set j (some (.str (tx [c])))) H0 f')
    (hd : ∀ σ' f', I a.length σ' f' → N D.nx σ' H0 f') : N (tFor (iStr te) (gName j) ts D) σ H0 fs := fun H k =>
  h H k _ fun v f1 H1 k1 ⟨e, h0⟩ => by
    refine ⟨tx a, e, for_it (walk_str (z := tx a)) (Lp H0 I) ⟨f1, k1, h0⟩ (fun _ _ _ _ _ => trivial) (fun i x σ' H' H2 hi p y => ?_) (fun σ' H' p => ?_)⟩
    · obtain ⟨eh, c, hc, ex⟩ := y
      subst eh ex
      obtain ⟨f', k', p'⟩ := p.ex
      exact hs i c σ' f' (by simpa using hc) p' _ k'
    · obtain ⟨f', k', p⟩ := p.ex
      have e2 : (tx a).cps.size = a.length := by simp
      rw [e2] at p
      exact hd σ' f' p H' k'
theorem RC.intN {n : Nat} (h : (TL.numL n).length ≤ 640) (q : Φ (.int (n : Int)) fs) : RC rIntS [.str (tx (TL.numL n))] H0 fs Φ := fun H k _ c =>
  ⟨_, (n : Int), rfl, by
    have e : Str.ofString (toString ((n : Nat) : Int)) = tx (TL.numL n) := SX.num_S n
    rw [← e]; exact TL.int_num (Nat.le_trans h (by decide)), by rw [tx_len]; exact h, c _ fs H k q⟩
end
theorem pe_globS {X : Cx} {x s : Str} {l : List Nat} {pos : Pos} (hg : Gl X x) (h : ∃ t, X.mg x = some (.str s t)) (e : s = tx l) (hd : (x == ("__debug__" : Str)) = false := by decide) : PE X (.Name x pos) (tC (.str (tx l))) := by
  obtain ⟨t, h⟩ := h
  subst e
  exact pe_glob hg h ⟨t, rfl⟩ hd
end Pa

namespace Pa
open TL (numL joinL)

/-! ### a polynomial's writing -/
def lett (p : Nat) : List Nat := if p = 0 then [] else if p = 1 then [120] else [120, 94] ++ numL p
def trm (n p : Nat) : List Nat := (if n = 1 ∧ 0 < p then [] else numL n) ++ lett p
def sgn (f : List Nat) (n : Int) : List Nat := if f = [] then (if n < 0 then [45] else []) else (if n < 0 then [32, 45, 32] else [32, 43, 32])
def wrs (xs : List Int) : Nat → List Nat
  | 0 => []
  | t + 1 => if xs.getD (xs.length - 1 - t) 0 = 0 then wrs xs t else wrs xs t ++ sgn (wrs xs t) (xs.getD (xs.length - 1 - t) 0) ++ trm (xs.getD (xs.length - 1 - t) 0).natAbs (xs.length - 1 - t)
def wr (xs : List Int) : List Nat := if wrs xs xs.length = [] then [48] else wrs xs xs.length
theorem numL_one {n : Nat} : numL n = [49] ↔ n = 1 := by
  have e : numL 1 = [49] := TL.numL_lt (by decide)
  constructor
  · intro h; exact TL.numL_inj (by rw [h, e])
  · intro h; rw [h, e]
theorem numL_len64 {n : Nat} (h : n < 2 ^ 210) : (numL n).length ≤ 64 := TL.numL_len (by decide) (Nat.lt_of_lt_of_le h (by decide))
theorem lett_len {p : Nat} (h : p < 1000) : (lett p).length ≤ 5 := by
  unfold lett
  have h2 := TL.numL_len (n := p) (k := 3) (by decide) (by omega)
  split
  · exact Nat.zero_le _
  · split
    · decide
    · rw [List.length_append, List.length_cons, List.length_cons, List.length_nil]; omega
theorem trm_len {n p : Nat} (h : n < 2 ^ 210) (hp : p < 1000) : (trm n p).length ≤ 69 := by
  unfold trm
  have h1 := numL_len64 h
  have h2 := lett_len hp
  rw [List.length_append]
  split
  · rw [List.length_nil]; omega
  · omega
theorem sgn_len (f : List Nat) (n : Int) : (sgn f n).length ≤ 3 := by
  unfold sgn
  split <;> split <;> decide
theorem wrs_len {xs : List Int} (hb : BdL 210 xs) (hl : xs.length ≤ 900) : ∀ t, (wrs xs t).length ≤ 72 * t
  | 0 => Nat.zero_le _
  | t + 1 => by
    have ih := wrs_len hb hl t
    show (if xs.getD (xs.length - 1 - t) 0 = 0 then wrs xs t else wrs xs t ++ sgn (wrs xs t) (xs.getD (xs.length - 1 - t) 0) ++ trm (xs.getD (xs.length - 1 - t) 0).natAbs (xs.length - 1 - t)).length ≤ _
    split
    · omega
    · have h1 := sgn_len (wrs xs t) (xs.getD (xs.length - 1 - t) 0)
      have h2 := trm_len (hb.at (xs.length - 1 - t)) (show xs.length - 1 - t < 1000 by omega)
      rw [List.length_append, List.length_append]; omega

/-! ### its terms -/
def tms (xs : List Int) : Nat → List (Int × Nat)
  | 0 => []
  | t + 1 => if xs.getD (xs.length - 1 - t) 0 = 0 then tms xs t else tms xs t ++ [(xs.getD (xs.length - 1 - t) 0, xs.length - 1 - t)]
def sg (n : Int) : List Nat := if n < 0 then [45] else [43]
def more2 (ts : List (Int × Nat)) : List (List Nat) := ts.flatMap fun t => [sg t.1, trm t.1.natAbs t.2]
def words : List (Int × Nat) → List (List Nat)
  | [] => []
  | a :: r => trm a.1.natAbs a.2 :: more2 r
def hs : List (Int × Nat) → List Nat
  | [] => []
  | a :: _ => if a.1 < 0 then [45] else []
theorem trm_ne (n p : Nat) : trm n p ≠ [] := by
  unfold trm
  split
  · rename_i h
    intro z
    have z2 := (List.append_eq_nil_iff.mp z).2
    unfold lett at z2
    rw [if_neg (by omega)] at z2
    split at z2
    · exact nomatch z2
    · exact nomatch z2
  · intro z
    exact TL.numL_ne n (List.append_eq_nil_iff.mp z).1
theorem words_snoc {a : Int × Nat} {r : List (Int × Nat)} (b : Int × Nat) : words (a :: r ++ [b]) = words (a :: r) ++ [sg b.1, trm b.1.natAbs b.2] := by
  show trm a.1.natAbs a.2 :: more2 (r ++ [b]) = _
  unfold more2
  rw [List.flatMap_append]
  rfl
theorem joinL_snoc (s w : List Nat) : ∀ {ws : List (List Nat)}, ws ≠ [] → joinL s (ws ++ [w]) = joinL s ws ++ s ++ w
  | [], h => absurd rfl h
  | [a], _ => by
    show joinL s [a, w] = _
    simp [joinL]
  | a :: b :: r, _ => by
    have ih := joinL_snoc s w (ws := b :: r) (by simp)
    show a ++ (s ++ joinL s (b :: r ++ [w])) = a ++ (s ++ joinL s (b :: r)) ++ s ++ w
    rw [ih]; simp [List.append_assoc]
theorem words_ne {a : Int × Nat} {r : List (Int × Nat)} : words (a :: r) ≠ [] := List.cons_ne_nil _ _
theorem join_ne {a : Int × Nat} {r : List (Int × Nat)} : joinL [32] (words (a :: r)) ≠ [] := by
  show joinL [32] (trm a.1.natAbs a.2 :: more2 r) ≠ []
  cases h : more2 r with
  | nil =>
    intro z
    exact trm_ne _ _ (by simpa [joinL] using z)
  | cons b s =>
    intro z
    have : trm a.1.natAbs a.2 ++ ([32] ++ joinL [32] (b :: s)) = [] := z
    simp at this
theorem wrs_eq (xs : List Int) : ∀ t, wrs xs t = hs (tms xs t) ++ joinL [32] (words (tms xs t)) ∧ (wrs xs t = [] ↔ tms xs t = [])
  | 0 => ⟨rfl, by exact ⟨fun _ => rfl, fun _ => rfl⟩⟩
  | t + 1 => by
    obtain ⟨ih, ih2⟩ := wrs_eq xs t
    unfold wrs tms
    generalize xs.getD (xs.length - 1 - t) 0 = n
    generalize xs.length - 1 - t = p
    by_cases hn : n = 0
    · rw [if_pos hn, if_pos hn]; exact ⟨ih, ih2⟩
    · rw [if_neg hn, if_neg hn]
      cases ht : tms xs t with
      | nil =>
        have hw : wrs xs t = [] := ih2.mpr ht
        rw [hw]
        refine ⟨?_, ?_⟩
        · show [] ++ sgn [] n ++ trm n.natAbs p = (if n < 0 then [45] else []) ++ joinL [32] [trm n.natAbs p]
          unfold sgn
          rw [if_pos rfl]
          simp [joinL]
        · refine ⟨fun z => ?_, fun z => nomatch z⟩
          exact absurd (List.append_eq_nil_iff.mp z).2 (trm_ne _ _)
      | cons a r =>
        have hw : wrs xs t ≠ [] := fun z => by
          have := ih2.mp z
          rw [ht] at this
          exact nomatch this
        refine ⟨?_, ?_⟩
        · rw [words_snoc, show words (a :: r) ++ [sg n, trm n.natAbs p] = (words (a :: r) ++ [sg n]) ++ [trm n.natAbs p] by simp, joinL_snoc [32] _ (by simp), joinL_snoc [32] _ words_ne, ih, ht]
          show _ = hs (a :: r) ++ _
          unfold sgn sg
          rw [if_neg (by rw [← ht, ← ih]; exact hw)]
          split <;> simp
        · refine ⟨fun z => ?_, fun z => ?_⟩
          · exact absurd (List.append_eq_nil_iff.mp z).2 (trm_ne _ _)
          · simp at z
theorem tms_len (xs : List Int) : ∀ t, (tms xs t).length ≤ t
  | 0 => Nat.le_refl _
  | t + 1 => by
    have ih := tms_len xs t
    unfold tms
    split
    · omega
    · rw [List.length_append, List.length_singleton]; omega
theorem tms_pow (xs : List Int) : ∀ t, t ≤ xs.length → ∀ a ∈ tms xs t, xs.length - t ≤ a.2 ∧ a.2 < xs.length ∧ a.1 = xs.getD a.2 0 ∧ a.1 ≠ 0
  | 0, _ => fun a h => nomatch h
  | t + 1, ht => fun a h => by
    have ih := tms_pow xs t (by omega)
    unfold tms at h
    split at h
    · obtain ⟨h1, h2, h3, h4⟩ := ih a h
      exact ⟨by omega, h2, h3, h4⟩
    · rename_i h0
      rcases List.mem_append.mp h with h | h
      · obtain ⟨h1, h2, h3, h4⟩ := ih a h
        exact ⟨by omega, h2, h3, h4⟩
      · rw [List.mem_singleton.mp h]
        exact ⟨by show _ ≤ xs.length - 1 - t; omega, by show xs.length - 1 - t < _; omega, rfl, h0⟩
theorem tms_desc (xs : List Int) : ∀ t, t ≤ xs.length → (tms xs t).Pairwise fun a b => b.2 < a.2
  | 0, _ => List.Pairwise.nil
  | t + 1, ht => by
    have ih := tms_desc xs t (by omega)
    have hp := tms_pow xs t (by omega)
    unfold tms
    split
    · exact ih
    · rw [List.pairwise_append]
      refine ⟨ih, List.pairwise_singleton _ _, fun a ha b hb => ?_⟩
      rw [List.mem_singleton.mp hb]
      have := (hp a ha).1
      show xs.length - 1 - t < a.2
      omega
/-- a row filled from terms -/
def fill (ts : List (Int × Nat)) : List Int := ts.foldl (fun r a => r.set a.2 a.1) (List.replicate 100 0)
theorem fill_snoc (ts : List (Int × Nat)) (a : Int × Nat) : fill (ts ++ [a]) = (fill ts).set a.2 a.1 := by
  unfold fill
  rw [List.foldl_append]; rfl
theorem fill_len (ts : List (Int × Nat)) : (fill ts).length = 100 := by
  unfold fill
  generalize hz : List.replicate 100 (0 : Int) = z
  have hl : z.length = 100 := by rw [← hz, List.length_replicate]
  clear hz
  induction ts generalizing z with
  | nil => exact hl
  | cons a r ih =>
    rw [List.foldl_cons]
    exact ih _ (by rw [List.length_set]; exact hl)
theorem fill_at {xs : List Int} (hl : xs.length ≤ 100) : ∀ t, t ≤ xs.length → ∀ i, (fill (tms xs t)).getD i 0 = if xs.length - t ≤ i ∧ i < xs.length then xs.getD i 0 else 0
  | 0, _ => fun i => by
    rw [if_neg (by omega)]
    exact getD_replicate _ _
  | t + 1, ht => fun i => by
    have ih := fill_at hl t (by omega)
    unfold tms
    split
    · rename_i h0
      rw [ih]
      by_cases e : i = xs.length - 1 - t
      · rw [if_neg (by omega), if_pos (by omega), e, h0]
      · by_cases h1 : xs.length - t ≤ i ∧ i < xs.length
        · rw [if_pos h1, if_pos (by omega)]
        · rw [if_neg h1, if_neg (by omega)]
    · rw [fill_snoc, getD_set, fill_len]
      show (if xs.length - 1 - t = i then if xs.length - 1 - t < 100 then xs.getD (xs.length - 1 - t) 0 else 0 else (fill (tms xs t)).getD i 0) = _
      by_cases e : xs.length - 1 - t = i
      · rw [if_pos e, if_pos (by omega), if_pos (by omega), e]
      · rw [if_neg e, ih]
        by_cases h1 : xs.length - t ≤ i ∧ i < xs.length
        · rw [if_pos h1, if_pos (by omega)]
        · rw [if_neg h1, if_neg (by omega)]
theorem fill_trim {xs : List Int} (ht : Tr xs) (hl : xs.length ≤ 100) : trim (fill (tms xs xs.length)) = xs := by
  refine S_inj (tr_trim _) ht ?_
  rw [S_trim]
  refine Ser.ext fun i => ?_
  rw [S_at, fill_at hl xs.length (Nat.le_refl _), S_at]
  by_cases h : i < xs.length
  · rw [if_pos (by omega)]
  · rw [if_neg (by omega), ← S_at, S_out (by omega)]
/-- no blank in a word -/
theorem lett_free (p : Nat) : 32 ∉ lett p := by
  unfold lett
  split
  · exact List.not_mem_nil
  · split
    · decide
    · intro h
      rcases List.mem_append.mp h with h | h
      · revert h; decide
      · exact TL.numL_free (.inl (by decide)) h
theorem trm_free (n p : Nat) : 32 ∉ trm n p := by
  unfold trm
  intro h
  rcases List.mem_append.mp h with h | h
  · split at h
    · exact nomatch h
    · exact TL.numL_free (.inl (by decide)) h
  · exact lett_free p h
theorem words_free : ∀ ts : List (Int × Nat), ∀ w ∈ words ts, 32 ∉ w
  | [], _, h => nomatch h
  | a :: r, w, h => by
    rcases List.mem_cons.mp h with rfl | h
    · exact trm_free _ _
    · unfold more2 at h
      obtain ⟨b, _, h⟩ := List.mem_flatMap.mp h
      rcases List.mem_cons.mp h with rfl | h
      · unfold sg; split <;> decide
      · rw [List.mem_singleton.mp h]; exact trm_free _ _
theorem more2_at : ∀ (ts : List (Int × Nat)) (i : Nat) (a : Int × Nat), ts[i]? = some a → (more2 ts)[2 * i]? = some (sg a.1) ∧ (more2 ts)[2 * i + 1]? = some (trm a.1.natAbs a.2)
  | [], _, _, h => by simp at h
  | b :: r, 0, a, h => by
    have e : b = a := by simpa using h
    subst e
    exact ⟨rfl, rfl⟩
  | b :: r, i + 1, a, h => by
    have ih := more2_at r i a (by simpa using h)
    show (sg b.1 :: trm b.1.natAbs b.2 :: more2 r)[2 * (i + 1)]? = _ ∧ (sg b.1 :: trm b.1.natAbs b.2 :: more2 r)[2 * (i + 1) + 1]? = _
    rw [show 2 * (i + 1) = 2 * i + 1 + 1 by omega]
    simp only [List.getElem?_cons_succ]
    exact ih
theorem words_at (ts : List (Int × Nat)) (i : Nat) (a : Int × Nat) (h : ts[i]? = some a) : (words ts)[2 * i]? = some (trm a.1.natAbs a.2) ∧ (0 < i → (words ts)[2 * i - 1]? = some (sg a.1)) := by
  cases ts with
  | nil => simp at h
  | cons b r =>
    cases i with
    | zero =>
      have e : b = a := by simpa using h
      subst e
      exact ⟨rfl, fun z => absurd z (by decide)⟩
    | succ i =>
      have ih := more2_at r i a (by simpa using h)
      show (trm b.1.natAbs b.2 :: more2 r)[2 * (i + 1)]? = _ ∧ (_ → (trm b.1.natAbs b.2 :: more2 r)[2 * (i + 1) - 1]? = _)
      rw [show 2 * (i + 1) = 2 * i + 1 + 1 by omega, show 2 * i + 1 + 1 - 1 = 2 * i + 1 by omega]
      simp only [List.getElem?_cons_succ]
      exact ⟨ih.2, fun _ => ih.1⟩
theorem words_len : ∀ {ts : List (Int × Nat)}, ts ≠ [] → (words ts).length + 1 = 2 * ts.length
  | [], h => absurd rfl h
  | a :: r, _ => by
    have e : ∀ r : List (Int × Nat), (more2 r).length = 2 * r.length := fun r => by
      induction r with
      | nil => rfl
      | cons b s ih =>
        show (sg b.1 :: trm b.1.natAbs b.2 :: more2 s).length = _
        simp only [List.length_cons, ih]; omega
    show (trm a.1.natAbs a.2 :: more2 r).length + 1 = 2 * (r.length + 1)
    rw [List.length_cons, e]; omega
/-- a number's first figure -/
theorem numL_head : ∀ {n : Nat}, 0 < n → ∃ c r, numL n = c :: r ∧ c ≠ 48
  | n, h => by
    by_cases h10 : n < 10
    · exact ⟨48 + n, [], TL.numL_lt h10, by omega⟩
    · obtain ⟨c, r, e, hc⟩ := numL_head (n := n / 10) (by omega)
      exact ⟨c, r ++ [48 + n % 10], by rw [TL.numL_step (by omega), e]; rfl, hc⟩
termination_by n => n
theorem trm_head {n p : Nat} (h : 0 < n) : ∃ c r, trm n p = c :: r ∧ c ≠ 48 ∧ c ≠ 45 := by
  unfold trm
  by_cases h1 : n = 1 ∧ 0 < p
  · rw [if_pos h1]
    unfold lett
    rw [if_neg (by omega)]
    split
    · exact ⟨120, [], rfl, by decide, by decide⟩
    · exact ⟨120, _, rfl, by decide, by decide⟩
  · rw [if_neg h1]
    obtain ⟨c, r, e, hc⟩ := numL_head h
    have hd := TL.numL_digits n c (by rw [e]; exact List.mem_cons_self)
    exact ⟨c, r ++ lett p, by rw [e]; rfl, hc, by omega⟩
theorem join_head {a : Int × Nat} {r : List (Int × Nat)} (h : a.1 ≠ 0) : ∃ c q, joinL [32] (words (a :: r)) = c :: q ∧ c ≠ 48 ∧ c ≠ 45 := by
  obtain ⟨c, q, e, h1, h2⟩ := trm_head (n := a.1.natAbs) (p := a.2) (Int.natAbs_pos.mpr h)
  show ∃ c q, joinL [32] (trm a.1.natAbs a.2 :: more2 r) = c :: q ∧ _
  cases hm : more2 r with
  | nil => exact ⟨c, q, by show trm a.1.natAbs a.2 = _; exact e, h1, h2⟩
  | cons b s => exact ⟨c, q ++ ([32] ++ joinL [32] (b :: s)), by show trm a.1.natAbs a.2 ++ ([32] ++ joinL [32] (b :: s)) = _; rw [e]; rfl, h1, h2⟩
theorem tms_nil {xs : List Int} (ht : Tr xs) (hl : xs.length ≤ 100) (h : tms xs xs.length = []) : xs = [] := by
  rw [← fill_trim ht hl, h]
  exact trim_rep [] 100
def sgi (n : Int) : Int := if n < 0 then -1 else 1
theorem sgi_mul (n : Int) : sgi n * (n.natAbs : Int) = n := by
  unfold sgi
  split <;> omega
theorem words_split {ts : List (Int × Nat)} (h : ts ≠ []) : TL.spl [32] 0 [] (joinL [32] (words ts)) = words ts := by
  cases ts with
  | nil => exact absurd rfl h
  | cons a r => exact SX.spl_join words_ne (words_free _)
end Pa

namespace Pa
open TL (numL joinL)

/-! ### figures -/
theorem digits_snoc (a : List Nat) (c : Nat) : PySem.NumText.digitsVal (a ++ [c]) = PySem.NumText.digitsVal a * 10 + (c - 48) := PySem.NumText.digitsVal_snoc a c
theorem numL_of_digits {a : List Nat} (h : ∀ c ∈ a, 48 ≤ c ∧ c ≤ 57) (hne : a ≠ []) (h0 : a.head? ≠ some 48) : ∃ n, 0 < n ∧ a = numL n := by
  generalize hn : a.length = k
  induction k generalizing a with
  | zero => exact absurd (List.length_eq_zero_iff.mp hn) hne
  | succ k ih =>
    obtain ⟨b, c, rfl⟩ : ∃ b c, a = b ++ [c] := ⟨a.dropLast, a.getLast hne, (List.dropLast_concat_getLast hne).symm⟩
    have hc := h c (by simp)
    by_cases hb : b = []
    · subst hb
      have : c ≠ 48 := fun z => h0 (by simp [z])
      refine ⟨c - 48, by omega, ?_⟩
      rw [TL.numL_lt (by omega)]
      show [c] = [48 + (c - 48)]
      rw [show 48 + (c - 48) = c by omega]
    · obtain ⟨n, hn0, e⟩ := ih (a := b) (fun d hd => h d (by simp [hd])) hb (by
        intro z
        apply h0
        cases b with
        | nil => exact absurd rfl hb
        | cons d r => exact z) (by simpa using hn)
      refine ⟨n * 10 + (c - 48), by omega, ?_⟩
      rw [TL.numL_step (by omega), show (n * 10 + (c - 48)) / 10 = n by omega, show (n * 10 + (c - 48)) % 10 = c - 48 by omega, ← e, show 48 + (c - 48) = c by omega]

/-! ### cutting at blanks and joining -/
theorem spl_ne (c : Nat) : ∀ (l acc : List Nat), TL.spl [c] 0 acc l ≠ []
  | [], acc => by rw [TL.spl_nil]; exact List.cons_ne_nil _ _
  | d :: r, acc => by
    cases h : TL.pre [c] (d :: r) with
    | true => rw [TL.spl_hit h]; exact List.cons_ne_nil _ _
    | false => rw [TL.spl_miss h]; exact spl_ne c r _
theorem join_spl (c : Nat) : ∀ (l acc : List Nat), joinL [c] (TL.spl [c] 0 acc l) = acc ++ l
  | [], acc => by rw [TL.spl_nil]; simp [joinL]
  | d :: r, acc => by
    cases h : TL.pre [c] (d :: r) with
    | true =>
      have hd : d = c := by
        have t2 : [d] = [c] := eq_of_beq h
        exact (List.cons.inj t2).1
      subst hd
      rw [TL.spl_hit h]
      have ih := join_spl d r []
      have hne := spl_ne d r []
      show joinL [d] (acc :: TL.spl [d] 0 [] r) = acc ++ d :: r
      cases hs : TL.spl [d] 0 [] r with
      | nil => exact absurd hs hne
      | cons p q =>
        rw [hs] at ih
        show acc ++ ([d] ++ joinL [d] (p :: q)) = _
        rw [ih]; rfl
    | false =>
      rw [TL.spl_miss h, join_spl c r (acc ++ [d])]
      simp
theorem spl_free' (c : Nat) : ∀ (l acc : List Nat), c ∉ acc → ∀ w ∈ TL.spl [c] 0 acc l, c ∉ w
  | [], acc, h => fun w hw => by
    rw [TL.spl_nil] at hw
    rw [List.mem_singleton.mp hw]; exact h
  | d :: r, acc, h => fun w hw => by
    cases hp : TL.pre [c] (d :: r) with
    | true =>
      rw [TL.spl_hit hp] at hw
      rcases List.mem_cons.mp hw with rfl | hw
      · exact h
      · exact spl_free' c r [] List.not_mem_nil w hw
    | false =>
      rw [TL.spl_miss hp] at hw
      refine spl_free' c r _ (fun z => ?_) w hw
      rcases List.mem_append.mp z with z | z
      · exact h z
      · rw [← List.mem_singleton.mp z] at hp
        have : TL.pre [c] (c :: r) = true := by unfold TL.pre; simp
        rw [this] at hp
        exact Bool.noConfusion hp
theorem join_infix (s : List Nat) : ∀ {ws : List (List Nat)} {w : List Nat}, w ∈ ws → ∃ p q, joinL s ws = p ++ w ++ q
  | [a], w, h => ⟨[], [], by rw [List.mem_singleton.mp h]; simp [joinL]⟩
  | a :: b :: r, w, h => by
    rcases List.mem_cons.mp h with rfl | h
    · exact ⟨[], s ++ joinL s (b :: r), by show w ++ (s ++ joinL s (b :: r)) = _; simp⟩
    · obtain ⟨p, q, e⟩ := join_infix s h
      exact ⟨a ++ (s ++ p), q, by show a ++ (s ++ joinL s (b :: r)) = _; rw [e]; simp⟩
/-- no run without a blank is longer -/
def Rn (m : Nat) (l : List Nat) : Prop := ∀ p w q, l = p ++ w ++ q → 32 ∉ w → w.length ≤ m
theorem Rn.word {m : Nat} {l w : List Nat} (h : Rn m l) (hw : w ∈ TL.spl [32] 0 [] l) : w.length ≤ m := by
  obtain ⟨p, q, e⟩ := join_infix [32] hw
  rw [join_spl] at e
  exact h p w q (by simpa using e) (spl_free' 32 l [] List.not_mem_nil w hw)

/-! ### terms and rows -/
structure VT (ts : List (Int × Nat)) : Prop where
  desc : ts.Pairwise fun a b => b.2 < a.2
  ok : ∀ a ∈ ts, a.2 < 100 ∧ a.1 ≠ 0
theorem VT.tms {xs : List Int} (hl : xs.length ≤ 100) : VT (tms xs xs.length) :=
  ⟨tms_desc xs _ (Nat.le_refl _), fun a ha => by
    obtain ⟨_, h2, _, h4⟩ := tms_pow xs _ (Nat.le_refl _) a ha
    exact ⟨by omega, h4⟩⟩
theorem VT.init {ts : List (Int × Nat)} {a : Int × Nat} (h : VT (ts ++ [a])) : VT ts :=
  ⟨(List.pairwise_append.mp h.desc).1, fun b hb => h.ok b (List.mem_append_left _ hb)⟩
theorem VT.last {ts : List (Int × Nat)} {a : Int × Nat} (h : VT (ts ++ [a])) : ∀ b ∈ ts, a.2 < b.2 := fun b hb =>
  (List.pairwise_append.mp h.desc).2.2 b hb a (List.mem_singleton.mpr rfl)
theorem snocs {α : Type} (l : List α) : l = [] ∨ ∃ b c, l = b ++ [c] := by
  by_cases h : l = []
  · exact .inl h
  · exact .inr ⟨l.dropLast, l.getLast h, (List.dropLast_concat_getLast h).symm⟩
/-- the number that stands at a power -/
theorem fill_mem : ∀ (k : Nat) {ts : List (Int × Nat)}, ts.length = k → VT ts → ∀ i n, n ≠ 0 → ((fill ts).getD i 0 = n ↔ (n, i) ∈ ts)
  | 0, ts, hk, h => fun i n hn => by
    have : ts = [] := List.length_eq_zero_iff.mp hk
    subst this
    have e : (fill []).getD i 0 = 0 := getD_replicate _ _
    rw [e]
    exact ⟨fun z => absurd z.symm hn, fun z => nomatch z⟩
  | k + 1, ts, hk, h => fun i n hn => by
    rcases snocs ts with rfl | ⟨b, c, rfl⟩
    · simp at hk
    · have ih := fill_mem k (ts := b) (by simpa using hk) h.init i n hn
      have hc := h.ok c (by simp)
      rw [fill_snoc, getD_set, fill_len]
      by_cases e : c.2 = i
      · rw [if_pos e, if_pos (by omega)]
        constructor
        · intro z
          have : c = (n, i) := by rw [← z, ← e]
          rw [this]; simp
        · intro z
          rcases List.mem_append.mp z with z | z
          · have := h.last (n, i) z
            exact absurd this (by show ¬ c.2 < i; omega)
          · rw [← List.mem_singleton.mp z]
      · rw [if_neg e, ih]
        constructor
        · intro z; exact List.mem_append_left _ z
        · intro z
          rcases List.mem_append.mp z with z | z
          · exact z
          · exact absurd (by rw [← List.mem_singleton.mp z]) e
theorem tms_mem (xs : List Int) (a : Int × Nat) : ∀ t, t ≤ xs.length → (xs.length - t ≤ a.2 → a.2 < xs.length → a.1 = xs.getD a.2 0 → a.1 ≠ 0 → a ∈ tms xs t)
  | 0, _ => fun h1 h2 _ _ => by omega
  | t + 1, ht => fun h1 h2 h3 h4 => by
    have ih := tms_mem xs a t (by omega)
    unfold Pa.tms
    by_cases e : a.2 = xs.length - 1 - t
    · have hx : xs.getD (xs.length - 1 - t) 0 ≠ 0 := by rw [← e, ← h3]; exact h4
      rw [if_neg hx]
      refine List.mem_append_right _ (List.mem_singleton.mpr ?_)
      rw [← e, ← h3]
    · have m := ih (by omega) h2 h3 h4
      split
      · exact m
      · exact List.mem_append_left _ m
theorem desc_eq : ∀ {ts us : List (Int × Nat)}, (ts.Pairwise fun a b => b.2 < a.2) → (us.Pairwise fun a b => b.2 < a.2) → (∀ a, a ∈ ts ↔ a ∈ us) → ts = us
  | [], [], _, _, _ => rfl
  | [], u :: us, _, _, h => absurd ((h u).mpr List.mem_cons_self) List.not_mem_nil
  | t :: ts, [], _, _, h => absurd ((h t).mp List.mem_cons_self) List.not_mem_nil
  | t :: ts, u :: us, h1, h2, h => by
    have a1 := List.pairwise_cons.mp h1
    have a2 := List.pairwise_cons.mp h2
    have e : t = u := by
      rcases List.mem_cons.mp ((h t).mp List.mem_cons_self) with e | m
      · exact e
      · rcases List.mem_cons.mp ((h u).mpr List.mem_cons_self) with e | m2
        · exact e.symm
        · have := a2.1 t m
          have := a1.1 u m2
          omega
    subst e
    rw [desc_eq a1.2 a2.2 fun a => ?_]
    constructor
    · intro m
      rcases List.mem_cons.mp ((h a).mp (List.mem_cons_of_mem _ m)) with e | m2
      · subst e; exact absurd (a1.1 a m) (Nat.lt_irrefl _)
      · exact m2
    · intro m
      rcases List.mem_cons.mp ((h a).mpr (List.mem_cons_of_mem _ m)) with e | m2
      · subst e; exact absurd (a2.1 a m) (Nat.lt_irrefl _)
      · exact m2
theorem trim_getD (xs : List Int) (i : Nat) : (trim xs).getD i 0 = xs.getD i 0 := congrFun (S_trim xs) i
theorem tms_fill {ts : List (Int × Nat)} (h : VT ts) : tms (trim (fill ts)) (trim (fill ts)).length = ts := by
  refine desc_eq (tms_desc _ _ (Nat.le_refl _)) h.desc fun a => ?_
  constructor
  · intro m
    obtain ⟨_, h2, h3, h4⟩ := tms_pow _ _ (Nat.le_refl _) a m
    rw [trim_getD] at h3
    exact (fill_mem _ rfl h a.2 a.1 h4).mp h3.symm
  · intro m
    have h4 := (h.ok a m).2
    have e := (fill_mem _ rfl h a.2 a.1 h4).mpr m
    rw [← trim_getD] at e
    refine tms_mem _ a _ (Nat.le_refl _) (by omega) (Nat.lt_of_not_le fun z => h4 ?_) e.symm h4
    rw [← e, List.getD_eq_getElem?_getD, List.getElem?_eq_none z]; rfl
/-- the writing of terms -/
def txt (ts : List (Int × Nat)) : List Nat := if ts = [] then [48] else hs ts ++ joinL [32] (words ts)
theorem wr_txt (xs : List Int) : wr xs = txt (tms xs xs.length) := by
  obtain ⟨h1, h2⟩ := wrs_eq xs xs.length
  unfold wr txt
  by_cases h : wrs xs xs.length = []
  · rw [if_pos h, if_pos (h2.mp h)]
  · rw [if_neg h, if_neg (fun z => h (h2.mpr z)), h1]
theorem wr_fill {ts : List (Int × Nat)} (h : VT ts) : wr (trim (fill ts)) = txt ts := by
  rw [wr_txt, tms_fill h]
theorem fill_tr_len (ts : List (Int × Nat)) : (trim (fill ts)).length ≤ 100 := Nat.le_trans (trim_length_le _) (by rw [fill_len]; exact Nat.le_refl _)
/-- a line that a row writes -/
def Wd (line : List Nat) : Prop := ∃ xs, Tr xs ∧ xs.length ≤ 100 ∧ wr xs = line
theorem Wd.of {ts : List (Int × Nat)} (h : VT ts) : Wd (txt ts) := ⟨_, tr_trim _, fill_tr_len ts, wr_fill h⟩
theorem trm_zero (n : Nat) : trm n 0 = numL n := by unfold trm lett; rw [if_neg (fun z => absurd z.2 (by decide)), if_pos rfl, List.append_nil]
theorem lett_x {p : Nat} (h : 0 < p) : ∃ R, lett p = 120 :: R := by
  unfold lett
  rw [if_neg (by omega)]
  split
  · exact ⟨_, rfl⟩
  · exact ⟨_, rfl⟩
theorem trm_x {n p : Nat} (h : 0 < p) : trm n p = (if n = 1 then [] else numL n) ++ lett p := by
  unfold trm
  by_cases n1 : n = 1
  · rw [if_pos ⟨n1, h⟩, if_pos n1]
  · rw [if_neg (fun z => n1 z.1), if_neg n1]
theorem split_x {a : List Nat} (h : 120 ∈ a) : ∃ F R, a = F ++ 120 :: R ∧ 120 ∉ F := by
  induction a with
  | nil => exact absurd h List.not_mem_nil
  | cons c r ih =>
    by_cases e : c = 120
    · exact ⟨[], r, by rw [e]; rfl, List.not_mem_nil⟩
    · rcases List.mem_cons.mp h with h | h
      · exact absurd h.symm e
      · obtain ⟨F, R, e1, e2⟩ := ih h
        refine ⟨c :: F, R, by rw [e1]; rfl, fun z => ?_⟩
        rcases List.mem_cons.mp z with z | z
        · exact e z.symm
        · exact e2 z
theorem split_x_eq {F F' R R' : List Nat} (h : F ++ 120 :: R = F' ++ 120 :: R') (h1 : 120 ∉ F) (h2 : 120 ∉ F') : F = F' ∧ R = R' := by
  induction F generalizing F' with
  | nil =>
    cases F' with
    | nil => exact ⟨rfl, (List.cons.inj h).2⟩
    | cons d s => exact absurd (by rw [← (List.cons.inj h).1]; exact List.mem_cons_self) h2
  | cons c r ih =>
    cases F' with
    | nil => exact absurd (by rw [(List.cons.inj h).1]; exact List.mem_cons_self) h1
    | cons d s =>
      obtain ⟨e1, e2⟩ := List.cons.inj h
      obtain ⟨e3, e4⟩ := ih (F' := s) e2 (fun z => h1 (List.mem_cons_of_mem _ z)) (fun z => h2 (List.mem_cons_of_mem _ z))
      exact ⟨by rw [e1, e3], e4⟩
theorem numL_x (n : Nat) : 120 ∉ numL n := TL.numL_free (.inr (by decide))
theorem lett_inj {p p' : Nat} (h : lett p = lett p') : p = p' := by
  have e2 : ∀ p, 2 ≤ p → lett p = 120 :: 94 :: numL p := fun p hp => by unfold lett; rw [if_neg (by omega), if_neg (by omega)]; rfl
  have l0 : lett 0 = [] := rfl
  have l1 : lett 1 = [120] := rfl
  rcases (show p = 0 ∨ p = 1 ∨ 2 ≤ p by omega) with rfl | rfl | h1 <;> rcases (show p' = 0 ∨ p' = 1 ∨ 2 ≤ p' by omega) with rfl | rfl | h2
  · rfl
  · exact nomatch h
  · rw [e2 _ h2] at h; exact nomatch h
  · exact nomatch h
  · rfl
  · rw [e2 _ h2] at h; exact absurd (List.cons.inj h).2 (by intro z; exact nomatch z)
  · rw [e2 _ h1] at h; exact nomatch h
  · rw [e2 _ h1] at h; exact absurd (List.cons.inj h).2 (by intro z; exact nomatch z)
  · rw [e2 _ h1, e2 _ h2] at h
    exact TL.numL_inj (List.cons.inj (List.cons.inj h).2).2
theorem trm_inj {n p n' p' : Nat} (h : trm n p = trm n' p') : n = n' ∧ p = p' := by
  by_cases hp : p = 0
  · subst hp
    by_cases hp' : p' = 0
    · subst hp'
      rw [trm_zero, trm_zero] at h
      exact ⟨TL.numL_inj h, rfl⟩
    · obtain ⟨R, e⟩ := lett_x (p := p') (by omega)
      rw [trm_zero, trm_x (by omega), e] at h
      exact absurd (by rw [h]; simp) (numL_x n)
  · obtain ⟨R, e⟩ := lett_x (p := p) (by omega)
    by_cases hp' : p' = 0
    · subst hp'
      rw [trm_zero, trm_x (by omega), e] at h
      exact absurd (by rw [← h]; simp) (numL_x n')
    · obtain ⟨R', e'⟩ := lett_x (p := p') (by omega)
      rw [trm_x (by omega), trm_x (by omega), e, e'] at h
      obtain ⟨h1, h2⟩ := split_x_eq h (by split; exact List.not_mem_nil; exact numL_x _) (by split; exact List.not_mem_nil; exact numL_x _)
      refine ⟨?_, lett_inj (by rw [e, e', h2])⟩
      by_cases n1 : n = 1
      · rw [if_pos n1] at h1
        by_cases n2 : n' = 1
        · rw [n1, n2]
        · rw [if_neg n2] at h1; exact absurd h1.symm (TL.numL_ne _)
      · rw [if_neg n1] at h1
        by_cases n2 : n' = 1
        · rw [if_pos n2] at h1; exact absurd h1 (TL.numL_ne _)
        · rw [if_neg n2] at h1; exact TL.numL_inj h1
theorem Rn.drop {m : Nat} {l : List Nat} (h : Rn m l) (k : Nat) : Rn m (l.drop k) := fun p w q e hw =>
  h (l.take k ++ p) w q (by rw [List.append_assoc, List.append_assoc, ← List.append_assoc p w q, ← e, List.take_append_drop]) hw
theorem words_ne' {ts : List (Int × Nat)} (h : ts ≠ []) : words ts ≠ [] := by
  cases ts with
  | nil => exact absurd rfl h
  | cons a r => exact words_ne
theorem spl_len (c : Nat) : ∀ (l acc : List Nat), (TL.spl [c] 0 acc l).length ≤ l.length + 1
  | [], acc => by rw [TL.spl_nil]; exact Nat.le_refl _
  | d :: r, acc => by
    cases h : TL.pre [c] (d :: r) with
    | true =>
      rw [TL.spl_hit h]
      have := spl_len c r []
      show (TL.spl [c] 0 [] r).length + 1 ≤ _
      rw [List.length_cons]; omega
    | false =>
      rw [TL.spl_miss h]
      have := spl_len c r (acc ++ [d])
      rw [List.length_cons]; omega
theorem VT.snoc {ts : List (Int × Nat)} {a : Int × Nat} (h : VT ts) (h1 : ∀ b ∈ ts, a.2 < b.2) (h2 : a.2 < 100) (h3 : a.1 ≠ 0) : VT (ts ++ [a]) :=
  ⟨List.pairwise_append.mpr ⟨h.desc, List.pairwise_singleton _ _, fun b hb c hc => by rw [List.mem_singleton.mp hc]; exact h1 b hb⟩, fun b hb => by
    rcases List.mem_append.mp hb with hb | hb
    · exact h.ok b hb
    · rw [List.mem_singleton.mp hb]; exact ⟨h2, h3⟩⟩
theorem VT.ge_last {ts : List (Int × Nat)} {b : List (Int × Nat)} {c : Int × Nat} (h : VT ts) (e : ts = b ++ [c]) : ∀ d ∈ ts, c.2 ≤ d.2 := fun d hd => by
  subst e
  rcases List.mem_append.mp hd with hd | hd
  · exact Nat.le_of_lt (h.last d hd)
  · rw [List.mem_singleton.mp hd]; exact Nat.le_refl _
theorem take_snoc' {α : Type} {l : List α} {k : Nat} {x : α} (h : l[k]? = some x) : l.take (k + 1) = l.take k ++ [x] := by
  rw [List.take_add_one, h]; rfl
end Pa

namespace Pa
open TL (numL joinL)
/-! ### runs of signs in a line -/
/-- the sign at a place, a blank beyond the line -/
def gt (l : List Nat) (i : Nat) : Nat := l.getD i 32
theorem gt_out {l : List Nat} {i : Nat} (h : l.length ≤ i) : gt l i = 32 := by
  unfold gt
  rw [List.getD_eq_getElem?_getD, List.getElem?_eq_none h]; rfl
theorem gt_app (A B : List Nat) (i : Nat) : gt (A ++ B) i = if i < A.length then gt A i else gt B (i - A.length) := by
  unfold gt
  rw [List.getD_eq_getElem?_getD, List.getD_eq_getElem?_getD, List.getD_eq_getElem?_getD]
  split
  · rename_i h; rw [List.getElem?_append_left h]
  · rename_i h; rw [List.getElem?_append_right (by omega)]
theorem gt_cons (c : Nat) (B : List Nat) (i : Nat) : gt (c :: B) i = if i = 0 then c else gt B (i - 1) := by
  cases i with
  | zero => rfl
  | succ i => rw [if_neg (by omega)]; rfl
theorem gt_mid (A B : List Nat) (c i : Nat) : gt (A ++ c :: B) i = if i < A.length then gt A i else if i = A.length then c else gt B (i - A.length - 1) := by
  rw [gt_app]
  split
  · rfl
  · rw [gt_cons]
    by_cases h : i = A.length
    · rw [if_pos (by omega), if_pos h]
    · rw [if_neg (by omega), if_neg h]
def Run (Q : Nat → Prop) (m : Nat) (l : List Nat) : Prop := ∀ i k, (∀ j, i ≤ j → j < i + k → Q (gt l j)) → k ≤ m
def Dg (c : Nat) : Prop := 48 ≤ c ∧ c ≤ 57
def Nb (c : Nat) : Prop := c ≠ 32
theorem Run.mono {Q : Nat → Prop} {m m' : Nat} {l : List Nat} (h : Run Q m l) (hm : m ≤ m') : Run Q m' l := fun i k hk => Nat.le_trans (h i k hk) hm
theorem Run.short {Q : Nat → Prop} (hQ : ¬ Q 32) {m : Nat} {l : List Nat} (h : l.length ≤ m) : Run Q m l := fun i k hk => by
  refine Nat.le_of_not_lt fun hh => ?_
  by_cases hi : i < l.length
  · exact hQ (by have := hk l.length (by omega) (by omega); rwa [gt_out (Nat.le_refl _)] at this)
  · exact hQ (by have := hk i (Nat.le_refl _) (by omega); rwa [gt_out (by omega)] at this)
theorem Run.app {Q : Nat → Prop} {m : Nat} {A B : List Nat} {c : Nat} (hA : Run Q m A) (hB : Run Q m B) (hc : ¬ Q c) : Run Q m (A ++ c :: B) := fun i k hk => by
  have e := gt_mid A B c
  by_cases h1 : i + k ≤ A.length
  · exact hA i k fun j h2 h3 => by
      have := hk j h2 h3
      rwa [e, if_pos (by omega)] at this
  · by_cases h2 : i ≤ A.length
    · by_cases h0 : k = 0
      · omega
      · exact absurd (by have := hk A.length h2 (by omega); rwa [e, if_neg (by omega), if_pos rfl] at this) hc
    · refine hB (i - A.length - 1) k fun j h3 h4 => ?_
      have := hk (j + A.length + 1) (by omega) (by omega)
      rwa [e, if_neg (by omega), if_neg (by omega), show j + A.length + 1 - A.length - 1 = j by omega] at this
/-- a sign put in -/
theorem Run.put {Q : Nat → Prop} {m : Nat} {A B : List Nat} {c : Nat} (h : Run Q m (A ++ B)) : Run Q (m + 1) (A ++ c :: B) := fun i k hk => by
  have e := gt_mid A B c
  have e2 := gt_app A B
  by_cases h1 : i + k ≤ A.length
  · refine Nat.le_succ_of_le (h i k fun j h2 h3 => ?_)
    have := hk j h2 h3
    rw [e, if_pos (by omega)] at this
    rw [e2, if_pos (by omega)]; exact this
  · by_cases h2 : i ≤ A.length
    · have := h i (k - 1) fun j h3 h4 => by
        by_cases h5 : j < A.length
        · have := hk j h3 (by omega)
          rw [e, if_pos h5] at this
          rw [e2, if_pos h5]; exact this
        · have := hk (j + 1) (by omega) (by omega)
          rw [e, if_neg (by omega), if_neg (by omega), show j + 1 - A.length - 1 = j - A.length by omega] at this
          rw [e2, if_neg h5]; exact this
      omega
    · refine Nat.le_succ_of_le (h (i - 1) k fun j h3 h4 => ?_)
      have := hk (j + 1) (by omega) (by omega)
      rw [e, if_neg (by omega), if_neg (by omega), show j + 1 - A.length - 1 = j - A.length by omega] at this
      rw [e2, if_neg (by omega)]; exact this
/-- a sign left out -/
theorem Run.cut {Q : Nat → Prop} {m : Nat} {A B : List Nat} {c : Nat} (h : Run Q m (A ++ c :: B)) : Run Q (2 * m) (A ++ B) := fun i k hk => by
  have e := gt_mid A B c
  have e2 := gt_app A B
  have left : min (i + k) A.length - i ≤ m := h i _ fun j h2 h3 => by
    have := hk j h2 (by omega)
    rw [e2, if_pos (by omega)] at this
    rw [e, if_pos (by omega)]; exact this
  have right : i + k - max i A.length ≤ m := h (max i A.length + 1) _ fun j h2 h3 => by
    have := hk (j - 1) (by omega) (by omega)
    rw [e2, if_neg (by omega)] at this
    rw [e, if_neg (by omega), if_neg (by omega), show j - A.length - 1 = j - 1 - A.length by omega]; exact this
  omega
/-- another sign in the place of one -/
theorem Run.swap {Q : Nat → Prop} {m : Nat} {A B : List Nat} {c c' : Nat} (h : Run Q m (A ++ c :: B)) : Run Q (2 * m + 1) (A ++ c' :: B) := fun i k hk => by
  have e := gt_mid A B c
  have e2 := gt_mid A B c'
  have left : min (i + k) A.length - i ≤ m := h i _ fun j h2 h3 => by
    have := hk j h2 (by omega)
    rw [e2, if_pos (by omega)] at this
    rw [e, if_pos (by omega)]; exact this
  have right : i + k - max i (A.length + 1) ≤ m := h (max i (A.length + 1)) _ fun j h2 h3 => by
    have := hk j (by omega) (by omega)
    rw [e2, if_neg (by omega), if_neg (by omega)] at this
    rw [e, if_neg (by omega), if_neg (by omega)]; exact this
  omega
/-- no sign alone between figures -/
def NM (l : List Nat) : Prop := ∀ i, Dg (gt l i) → ¬ Dg (gt l (i + 1)) → ¬ Dg (gt l (i + 2))
/-- behind an x: ^ or a blank -/
def XL (l : List Nat) : Prop := ∀ i, gt l i = 120 → gt l (i + 1) = 94 ∨ gt l (i + 1) = 32
theorem not_dg32 : ¬ Dg 32 := by unfold Dg; omega
theorem Run.cutD {m : Nat} {A B : List Nat} {c : Nat} (h : Run Dg m (A ++ c :: B)) (hn : NM (A ++ c :: B)) : Run Dg (m + 1) (A ++ B) := fun i k hk => by
  have e := gt_mid A B c
  have e2 := gt_app A B
  have left : min (i + k) A.length - i ≤ m := h i _ fun j h2 h3 => by
    have := hk j h2 (by omega)
    rw [e2, if_pos (by omega)] at this
    rw [e, if_pos (by omega)]; exact this
  have right : i + k - max i A.length ≤ m := h (max i A.length + 1) _ fun j h2 h3 => by
    have := hk (j - 1) (by omega) (by omega)
    rw [e2, if_neg (by omega)] at this
    rw [e, if_neg (by omega), if_neg (by omega), show j - A.length - 1 = j - 1 - A.length by omega]; exact this
  by_cases hx : i < A.length ∧ A.length < i + k
  · by_cases hc : Dg c
    · have := h i (k + 1) fun j h2 h3 => by
        rw [e]
        by_cases h4 : j < A.length
        · rw [if_pos h4]
          have := hk j h2 (by omega)
          rwa [e2, if_pos h4] at this
        · rw [if_neg h4]
          by_cases h5 : j = A.length
          · rw [if_pos h5]; exact hc
          · rw [if_neg h5]
            have := hk (j - 1) (by omega) (by omega)
            rw [e2, if_neg (by omega)] at this
            rwa [show j - A.length - 1 = j - 1 - A.length by omega]
      omega
    · exfalso
      refine hn (A.length - 1) ?_ ?_ ?_
      · have := hk (A.length - 1) (by omega) (by omega)
        rw [e2, if_pos (by omega)] at this
        rw [e, if_pos (by omega)]; exact this
      · rw [e, if_neg (by omega), if_pos (by omega)]; exact hc
      · have := hk A.length (by omega) (by omega)
        rw [e2, if_neg (by omega)] at this
        rw [e, if_neg (by omega), if_neg (by omega), show A.length - 1 + 2 - A.length - 1 = A.length - A.length by omega]; exact this
  · omega
theorem Run.swapD {m : Nat} {A B : List Nat} {c c' : Nat} (h : Run Dg m (A ++ c :: B)) (hn : NM (A ++ c :: B)) : Run Dg (m + 1) (A ++ c' :: B) := fun i k hk => by
  have e := gt_mid A B c
  have e2 := gt_mid A B c'
  have left : min (i + k) A.length - i ≤ m := h i _ fun j h2 h3 => by
    have := hk j h2 (by omega)
    rw [e2, if_pos (by omega)] at this
    rw [e, if_pos (by omega)]; exact this
  have right : i + k - max i (A.length + 1) ≤ m := h (max i (A.length + 1)) _ fun j h2 h3 => by
    have := hk j (by omega) (by omega)
    rw [e2, if_neg (by omega), if_neg (by omega)] at this
    rw [e, if_neg (by omega), if_neg (by omega)]; exact this
  by_cases hx : i < A.length ∧ A.length + 1 < i + k
  · by_cases hc : Dg c
    · have := h i k fun j h2 h3 => by
        rw [e]
        have := hk j h2 h3
        rw [e2] at this
        by_cases h4 : j < A.length
        · rw [if_pos h4] at this ⊢; exact this
        · rw [if_neg h4] at this ⊢
          by_cases h5 : j = A.length
          · rw [if_pos h5]; exact hc
          · rw [if_neg h5] at this ⊢; exact this
      omega
    · exfalso
      refine hn (A.length - 1) ?_ ?_ ?_
      · have := hk (A.length - 1) (by omega) (by omega)
        rw [e2, if_pos (by omega)] at this
        rw [e, if_pos (by omega)]; exact this
      · rw [e, if_neg (by omega), if_pos (by omega)]; exact hc
      · have := hk (A.length + 1) (by omega) (by omega)
        rw [e2, if_neg (by omega), if_neg (by omega)] at this
        rw [e, if_neg (by omega), if_neg (by omega), show A.length - 1 + 2 - A.length - 1 = A.length + 1 - A.length - 1 by omega]; exact this
  · omega
/-- each x replaced -/
theorem gt_map (l : List Nat) (s i : Nat) : gt (l.map fun c => if c = 120 then s else c) i = if gt l i = 120 then s else gt l i := by
  unfold gt
  rw [List.getD_eq_getElem?_getD, List.getD_eq_getElem?_getD, List.getElem?_map]
  cases l[i]? with
  | none => simp
  | some c => simp
theorem Run.mapN {m s : Nat} {l : List Nat} (h : Run Nb m l) : Run Nb m (l.map fun c => if c = 120 then s else c) := fun i k hk => h i k fun j h2 h3 => by
  have := hk j h2 h3
  rw [gt_map] at this
  intro z
  rw [z] at this
  exact this rfl
theorem Run.mapD {m s : Nat} {l : List Nat} (h : Run Dg m l) (hx : XL l) : Run Dg (m + 1) (l.map fun c => if c = 120 then s else c) := fun i k hk => by
  have := h i (k - 1) fun j h2 h3 => by
    have h4 := hk j h2 (by omega)
    rw [gt_map] at h4
    by_cases h5 : gt l j = 120
    · exfalso
      have h6 := hk (j + 1) (by omega) (by omega)
      rw [gt_map] at h6
      unfold Dg at h6
      rcases hx j h5 with h7 | h7
      · rw [h7, if_neg (by decide)] at h6; omega
      · rw [h7, if_neg (by decide)] at h6; omega
    · rwa [if_neg h5] at h4
  omega
/-! ### .. in a writing -/
structure Wln (m : Nat) (l : List Nat) : Prop where
  d : Run Dg m l
  b : Run Nb 70 l
  n : NM l
  x : XL l
theorem gt_digit {F : List Nat} (hF : ∀ c ∈ F, 48 ≤ c ∧ c ≤ 57) {i : Nat} (h : i < F.length) : Dg (gt F i) := by
  unfold gt
  rw [List.getD_eq_getElem?_getD, List.getElem?_eq_getElem h]
  exact hF _ (List.getElem_mem h)
theorem Wln.app {m : Nat} {A B : List Nat} (hA : Wln m A) (hB : Wln m B) (h : ¬ Dg (gt A (A.length - 1)) ∨ ¬ Dg (gt B 0)) : Wln m (A ++ 32 :: B) := by
  have e := gt_mid A B 32
  refine ⟨hA.d.app hB.d not_dg32, hA.b.app hB.b (by unfold Nb; omega), fun i => ?_, fun i => ?_⟩
  · rw [e, e, e]
    by_cases h1 : i + 2 < A.length
    · rw [if_pos (by omega), if_pos (by omega), if_pos (by omega)]; exact hA.n i
    · by_cases h2 : i + 2 = A.length
      · rw [if_pos (by omega), if_pos (by omega), if_neg (by omega), if_pos h2]
        exact fun _ _ => not_dg32
      · by_cases h3 : i + 1 = A.length
        · rw [if_pos (by omega), if_neg (by omega), if_pos h3, if_neg (by omega), if_neg (by omega), show i = A.length - 1 by omega, show A.length - 1 + 2 - A.length - 1 = 0 by omega]
          intro a _ b
          exact h.elim (fun z => z a) (fun z => z b)
        · by_cases h4 : i = A.length
          · rw [if_neg (by omega), if_pos h4]
            exact fun a => absurd a not_dg32
          · rw [if_neg (by omega), if_neg h4, if_neg (by omega), if_neg (by omega), if_neg (by omega), if_neg (by omega), show i + 1 - A.length - 1 = i - A.length - 1 + 1 by omega, show i + 2 - A.length - 1 = i - A.length - 1 + 2 by omega]
            exact hB.n _
  · rw [e, e]
    by_cases h1 : i + 1 < A.length
    · rw [if_pos (by omega), if_pos (by omega)]; exact hA.x i
    · by_cases h2 : i + 1 = A.length
      · rw [if_pos (by omega), if_neg (by omega), if_pos h2]
        exact fun _ => .inr rfl
      · by_cases h4 : i = A.length
        · rw [if_neg (by omega), if_pos h4]
          exact fun z => absurd z (by decide)
        · rw [if_neg (by omega), if_neg h4, if_neg (by omega), if_neg (by omega), show i + 1 - A.length - 1 = i - A.length - 1 + 1 by omega]
          exact hB.x _
/-- a term -/
theorem Wln.term {m : Nat} {F R : List Nat} (hF : ∀ c ∈ F, 48 ≤ c ∧ c ≤ 57) (hm : F.length ≤ m) (hm2 : 3 ≤ m) (hl : F.length ≤ 60) (hR : R = [] ∨ ∃ P, R = 94 :: P ∧ P.length ≤ 3 ∧ ∀ c ∈ P, 48 ≤ c ∧ c ≤ 57) : Wln m (F ++ 120 :: R) := by
  have e := gt_mid F R 120
  have n120 : ¬ Dg 120 := by unfold Dg; omega
  have n94 : ¬ Dg 94 := by unfold Dg; omega
  have lR : R.length ≤ 4 := by
    rcases hR with h | ⟨P, h, h2, _⟩
    · rw [h]; simp
    · rw [h, List.length_cons]; omega
  have dR : Run Dg m R := by
    rcases hR with h | ⟨P, h, h2, _⟩
    · rw [h]; exact Run.short not_dg32 (by simp)
    · rw [h]
      exact Run.app (A := []) (Run.short not_dg32 (by simp)) (Run.short not_dg32 (by omega)) n94
  have r0 : ¬ Dg (gt R 0) := by
    rcases hR with h | ⟨P, h, _⟩
    · rw [h, gt_out (by simp)]; exact not_dg32
    · rw [h]; exact n94
  refine ⟨(Run.short not_dg32 hm).app dR n120, Run.short (by unfold Nb; omega) (by rw [List.length_append, List.length_cons]; omega), fun i => ?_, fun i => ?_⟩
  · rw [e, e, e]
    by_cases h1 : i + 1 < F.length
    · rw [if_pos (by omega), if_pos h1]
      exact fun _ b => absurd (gt_digit hF h1) b
    · by_cases h2 : i + 1 = F.length
      · rw [if_pos (by omega), if_neg (by omega), if_pos h2, if_neg (by omega), if_neg (by omega), show i + 2 - F.length - 1 = 0 by omega]
        exact fun _ _ => r0
      · by_cases h3 : i = F.length
        · rw [if_neg (by omega), if_pos h3]
          exact fun a => absurd a n120
        · rw [if_neg (by omega), if_neg h3, if_neg (by omega), if_neg (by omega), if_neg (by omega), if_neg (by omega), show i + 1 - F.length - 1 = i - F.length - 1 + 1 by omega, show i + 2 - F.length - 1 = i - F.length - 1 + 2 by omega]
          generalize i - F.length - 1 = k
          rcases hR with h | ⟨P, h, hP, hd⟩
          · rw [h, gt_out (by simp)]
            exact fun a => absurd a not_dg32
          · rw [h, gt_cons, gt_cons, gt_cons]
            by_cases h0 : k = 0
            · rw [if_pos h0]
              exact fun a => absurd a n94
            · rw [if_neg (by omega), if_neg (by omega), if_neg (by omega)]
              by_cases h5 : k + 1 - 1 < P.length
              · exact fun _ b => absurd (gt_digit hd h5) b
              · rw [gt_out (l := P) (i := k + 2 - 1) (by omega)]
                exact fun _ _ => not_dg32
  · rw [e, e]
    by_cases h1 : i < F.length
    · rw [if_pos h1]
      intro z
      have := gt_digit hF h1
      rw [z] at this
      exact absurd this n120
    · by_cases h3 : i = F.length
      · rw [if_neg h1, if_pos h3, if_neg (by omega), if_neg (by omega), show i + 1 - F.length - 1 = 0 by omega]
        intro _
        rcases hR with h | ⟨P, h, _⟩
        · rw [h]; exact .inr rfl
        · rw [h]; exact .inl rfl
      · rw [if_neg h1, if_neg h3]
        generalize i - F.length - 1 = k
        intro z
        exfalso
        rcases hR with h | ⟨P, h, hP, hd⟩
        · rw [h, gt_out (by simp)] at z
          exact absurd z (by decide)
        · rw [h, gt_cons] at z
          by_cases h0 : k = 0
          · rw [if_pos h0] at z; exact absurd z (by decide)
          · rw [if_neg h0] at z
            by_cases h5 : k - 1 < P.length
            · have := gt_digit hd h5
              rw [z] at this
              exact n120 this
            · rw [gt_out (by omega)] at z
              exact absurd z (by decide)
theorem Wln.figs {m : Nat} {F : List Nat} (hF : ∀ c ∈ F, 48 ≤ c ∧ c ≤ 57) (hm : F.length ≤ m) (hl : F.length ≤ 60) : Wln m F := by
  refine ⟨Run.short not_dg32 hm, Run.short (by unfold Nb; omega) (by omega), fun i => ?_, fun i => ?_⟩
  · by_cases h1 : i + 1 < F.length
    · exact fun _ b => absurd (gt_digit hF h1) b
    · rw [gt_out (l := F) (i := i + 2) (by omega)]
      exact fun _ _ => not_dg32
  · intro z
    by_cases h1 : i < F.length
    · have := gt_digit hF h1
      rw [z] at this
      unfold Dg at this; omega
    · rw [gt_out (by omega)] at z
      exact absurd z (by decide)
theorem Wln.one {m c : Nat} (hm : 1 ≤ m) (hc : ¬ Dg c) (hx : c ≠ 120) : Wln m [c] := by
  refine ⟨Run.short not_dg32 (by simpa using hm), Run.short (by unfold Nb; omega) (by simp), fun i => ?_, fun i => ?_⟩
  · rw [gt_cons]
    by_cases h : i = 0
    · rw [if_pos h]; exact fun a => absurd a hc
    · rw [if_neg h, gt_out (by simp)]; exact fun a => absurd a not_dg32
  · rw [gt_cons]
    by_cases h : i = 0
    · rw [if_pos h]; exact fun z => absurd z hx
    · rw [if_neg h, gt_out (by simp)]; exact fun z => absurd z (by decide)
theorem Wln.trm {n p : Nat} (h : (numL n).length ≤ 59) (hp : p < 1000) : Wln 59 (trm n p) := by
  by_cases h0 : p = 0
  · rw [h0, trm_zero]
    exact Wln.figs (TL.numL_digits n) h (by omega)
  · obtain ⟨R, eR⟩ := lett_x (Nat.pos_of_ne_zero h0)
    rw [trm_x (Nat.pos_of_ne_zero h0), eR]
    have hF : ∀ c ∈ (if n = 1 then [] else numL n), 48 ≤ c ∧ c ≤ 57 := by
      split
      · intro c hc; cases hc
      · exact TL.numL_digits n
    have hl : (if n = 1 then [] else numL n).length ≤ 59 := by
      split
      · simp
      · exact h
    refine Wln.term hF hl (by omega) (by omega) ?_
    unfold lett at eR
    rw [if_neg h0] at eR
    by_cases h1 : p = 1
    · rw [if_pos h1] at eR
      exact .inl (List.cons.inj eR).2.symm
    · rw [if_neg h1] at eR
      exact .inr ⟨numL p, (List.cons.inj eR).2.symm, TL.numL_len (k := 3) (by decide) hp, TL.numL_digits p⟩
theorem Wln.words : ∀ (r : List (Int × Nat)) (a : Int × Nat), (∀ b ∈ a :: r, (numL b.1.natAbs).length ≤ 59 ∧ b.2 < 1000) → Wln 59 (joinL [32] (words (a :: r)))
  | [], a, h => by
    show Wln 59 (Pa.trm a.1.natAbs a.2)
    obtain ⟨h1, h2⟩ := h a List.mem_cons_self
    exact Wln.trm h1 h2
  | b :: r, a, h => by
    obtain ⟨h1, h2⟩ := h a List.mem_cons_self
    have ih := Wln.words r b fun c hc => h c (List.mem_cons_of_mem _ hc)
    show Wln 59 (Pa.trm a.1.natAbs a.2 ++ 32 :: (sg b.1 ++ 32 :: joinL [32] (Pa.words (b :: r))))
    have es : sg b.1 = [45] ∨ sg b.1 = [43] := by unfold sg; split; exact .inl rfl; exact .inr rfl
    have ns : ∀ c, c = 45 ∨ c = 43 → ¬ Dg c := fun c hc => by unfold Dg; omega
    have inner : Wln 59 (sg b.1 ++ 32 :: joinL [32] (Pa.words (b :: r))) := by
      rcases es with e | e
      · rw [e]; exact (Wln.one (by omega) (ns 45 (.inl rfl)) (by decide)).app ih (.inl (ns 45 (.inl rfl)))
      · rw [e]; exact (Wln.one (by omega) (ns 43 (.inr rfl)) (by decide)).app ih (.inl (ns 43 (.inr rfl)))
    refine (Wln.trm h1 h2).app inner (.inr ?_)
    rcases es with e | e
    · rw [e]; exact ns 45 (.inl rfl)
    · rw [e]; exact ns 43 (.inr rfl)
/-- a writing's facts -/
structure Wfl (l : List Nat) : Prop where
  d : Run Dg 59 l
  b : Run Nb 71 l
  n : NM l
  x : XL l
theorem Wfl.wr {xs : List Int} (hl : xs.length ≤ 200) (hn : ∀ x ∈ xs, (numL x.natAbs).length ≤ 59) : Wfl (wr xs) := by
  rw [wr_txt]
  unfold txt
  split
  · have := Wln.figs (m := 59) (F := [48]) (by decide) (by decide) (by decide)
    exact ⟨this.d, this.b.mono (by omega), this.n, this.x⟩
  · rename_i hne
    have hpow := tms_pow xs xs.length (Nat.le_refl _)
    generalize tms xs xs.length = ts at hne hpow
    cases ts with
    | nil => exact absurd rfl hne
    | cons a r =>
      have hw := Wln.words r a fun b hb => by
        obtain ⟨_, p1, p2, _⟩ := hpow b hb
        refine ⟨?_, by omega⟩
        rw [p2, List.getD_eq_getElem?_getD, List.getElem?_eq_getElem p1]
        exact hn _ (List.getElem_mem p1)
      have e : hs (a :: r) = if a.1 < 0 then [45] else [] := rfl
      rw [e]
      have n45 : ¬ Dg 45 := by unfold Dg; omega
      split
      · show Wfl (45 :: joinL [32] (words (a :: r)))
        generalize joinL [32] (words (a :: r)) = l at hw
        refine ⟨Run.app (A := []) (Run.short not_dg32 (by simp)) hw.d n45, Run.put (A := []) hw.b, fun i => ?_, fun i => ?_⟩
        · rw [gt_cons, gt_cons, gt_cons]
          by_cases h : i = 0
          · rw [if_pos h]; exact fun z => absurd z n45
          · rw [if_neg h, if_neg (by omega), if_neg (by omega), show i + 1 - 1 = i - 1 + 1 by omega, show i + 2 - 1 = i - 1 + 2 by omega]
            exact hw.n _
        · rw [gt_cons, gt_cons]
          by_cases h : i = 0
          · rw [if_pos h]; exact fun z => absurd z (by decide)
          · rw [if_neg h, if_neg (by omega), show i + 1 - 1 = i - 1 + 1 by omega]
            exact hw.x _
      · exact ⟨hw.d, hw.b.mono (by omega), hw.n, hw.x⟩
/-- what is asked of a line -/
structure Lf (l : List Nat) : Prop where
  d : Run Dg 60 l
  b : Run Nb 640 l
  l : l.length ≤ 20000
theorem Lf.short {l : List Nat} (h : l.length ≤ 60) : Lf l := ⟨Run.short not_dg32 h, Run.short (by unfold Nb; omega) (by omega), by omega⟩
theorem Lf.rn {l : List Nat} (h : Lf l) : Rn 640 l := fun p w q e hw => h.b p.length w.length fun j h1 h2 => by
  rw [e, List.append_assoc, gt_app, if_neg (by omega), gt_app, if_pos (by omega)]
  unfold Nb gt
  rw [List.getD_eq_getElem?_getD, List.getElem?_eq_getElem (by omega)]
  intro z
  exact hw (by rw [← z]; exact List.getElem_mem _)
theorem Lf.infix {l p w q : List Nat} (h : Lf l) (e : l = p ++ w ++ q) (hw : ∀ c ∈ w, 48 ≤ c ∧ c ≤ 57) : w.length ≤ 60 := h.d p.length w.length fun j h1 h2 => by
  rw [e, List.append_assoc, gt_app, if_neg (by omega), gt_app, if_pos (by omega)]
  exact gt_digit hw (by omega)
theorem Lf.digits {l : List Nat} (h : Lf l) : ∀ xs, Tr xs → xs.length ≤ 100 → wr xs = l → ∀ x ∈ xs, (numL x.natAbs).length ≤ 60 := fun xs ht hl hw x hx => by
  by_cases h1 : x.natAbs ≤ 1
  · have : (numL x.natAbs).length ≤ 1 := TL.numL_len (k := 1) (by decide) (by omega)
    omega
  · obtain ⟨i, hi, e⟩ := List.getElem_of_mem hx
    have hm : (x, i) ∈ tms xs xs.length := tms_mem xs (x, i) xs.length (Nat.le_refl _) (by omega) hi (by
      show x = xs.getD i 0
      rw [List.getD_eq_getElem?_getD, List.getElem?_eq_getElem hi, e]; rfl) (by show x ≠ 0; omega)
    have hne : tms xs xs.length ≠ [] := List.ne_nil_of_mem hm
    have etx : l = hs (tms xs xs.length) ++ joinL [32] (words (tms xs xs.length)) := by
      rw [← hw, wr_txt]; unfold txt; rw [if_neg hne]
    obtain ⟨j, hj, ej⟩ := List.getElem_of_mem hm
    have hat := (words_at (tms xs xs.length) j (x, i) (by rw [List.getElem?_eq_getElem hj, ej])).1
    obtain ⟨p, q, ep⟩ := join_infix [32] (List.mem_of_getElem? hat)
    rw [ep] at etx
    have et : trm x.natAbs i = numL x.natAbs ++ lett i := by
      unfold trm
      rw [if_neg (fun z => by omega)]
    have et' : trm (x, i).1.natAbs (x, i).2 = numL x.natAbs ++ lett i := et
    rw [et'] at etx
    refine h.infix (p := hs (tms xs xs.length) ++ p) (q := lett i ++ q) ?_ (TL.numL_digits _)
    rw [etx]
    simp only [List.append_assoc]
theorem Lf.wfl {l : List Nat} (h : Wfl l) (hl : l.length ≤ 20000) : Lf l := ⟨h.d.mono (by omega), h.b.mono (by omega), hl⟩
theorem split_at {l : List Nat} {p : Nat} (h : p < l.length) : l = l.take p ++ l[p] :: l.drop (p + 1) := by
  rw [← List.drop_eq_getElem_cons h, List.take_append_drop]
theorem Lf.put {l : List Nat} (h : Wfl l) (hl : l.length ≤ 19000) (p c : Nat) : Lf (l.take p ++ [c] ++ l.drop p) := by
  have e : l.take p ++ l.drop p = l := List.take_append_drop p l
  rw [List.append_assoc]
  show Lf (l.take p ++ c :: l.drop p)
  refine ⟨Run.put (by rw [e]; exact h.d), (Run.put (by rw [e]; exact h.b)).mono (by omega), ?_⟩
  have := congrArg List.length e
  simp only [List.length_append, List.length_cons] at this ⊢
  omega
theorem Lf.cut {l : List Nat} (h : Wfl l) (hl : l.length ≤ 19000) (p : Nat) : Lf (l.take p ++ l.drop (p + 1)) := by
  by_cases hp : p < l.length
  · have e := split_at hp
    refine ⟨Run.cutD (c := l[p]) (by rw [← e]; exact h.d) (by rw [← e]; exact h.n), (Run.cut (c := l[p]) (by rw [← e]; exact h.b)).mono (by omega), ?_⟩
    rw [List.length_append, List.length_take, List.length_drop]; omega
  · rw [List.take_of_length_le (by omega), List.drop_eq_nil_of_le (by omega), List.append_nil]
    exact Lf.wfl h (by omega)
theorem Lf.swap {l : List Nat} (h : Wfl l) (hl : l.length ≤ 19000) (p c : Nat) : Lf (l.take p ++ [c] ++ l.drop (p + 1)) := by
  by_cases hp : p < l.length
  · have e := split_at hp
    rw [List.append_assoc]
    show Lf (l.take p ++ c :: l.drop (p + 1))
    refine ⟨Run.swapD (c := l[p]) (by rw [← e]; exact h.d) (by rw [← e]; exact h.n), (Run.swap (c := l[p]) (by rw [← e]; exact h.b)).mono (by omega), ?_⟩
    rw [List.length_append, List.length_take, List.length_cons, List.length_drop]; omega
  · have := Lf.put h hl p c
    rw [List.drop_eq_nil_of_le (by omega : l.length ≤ p + 1)]
    rw [List.drop_eq_nil_of_le (by omega : l.length ≤ p)] at this
    exact this
theorem Lf.map {l : List Nat} (h : Wfl l) (hl : l.length ≤ 19000) (s : Nat) : Lf (l.map fun c => if c = 120 then s else c) :=
  ⟨h.d.mapD h.x, h.b.mapN.mono (by omega), by rw [List.length_map]; omega⟩
end Pa

namespace Pa
open PySem PySem.Spec PyProof.Rows L2

/-! ### no token is told of -/
theorem static_none {K : PySem.W.Frag} {h : Heap} {mc : Str → Option Value} {key : Str} (hK : K.In h) (hn : h.Ns cStatics mc) (e : PySem.W.nsIn K cStatics key = some none) : mc key = none := by
  obtain ⟨ob, ents, _, at_, dat, _, all⟩ := hn
  cases hl : K.lookup cStatics with
  | none => rw [PySem.W.nsIn, hl] at e; exact nomatch e
  | some ob' =>
    have same : ob' = ob := by
      have h1 := hK _ _ hl
      rw [at_] at h1
      exact (Option.some.inj h1).symm
    subst same
    obtain ⟨oc, od, dt, sl⟩ := ob'
    have dat' : dt = _ := dat
    subst dat'
    rw [PySem.W.nsIn, hl] at e
    cases hf : ents.toList.find? (fun x => x.key.isStr key) with
    | some x =>
      simp only [hf] at e
      exact nomatch e
    | none =>
      rw [← all]
      unfold nsFind findBy
      rw [← Array.find?_toList, hf]
      rfl
theorem booked {X : Cx} {pins : List (Addr × Obj)} {σ : St} {H : Hp} {s : Shared} (I : Inv X pins σ H s) (e : PySem.W.nsIn X.K cStatics sharingNotToldKey = some none) : NoneBooked s.heap := by
  obtain ⟨mc, hn, _⟩ := I.nolimit
  exact ⟨mc, hn, static_none I.kIn hn e⟩

/-! ### a block whose answer is a text made behind n tokens -/
def BkN (X : Cx) (n : Nat) (st : List Stmt) (t : TS) : Prop := ∀ (pins : List (Addr × Obj)) (s : Shared) (σ : St) (H : Hp) (D : Ends), n ≤ s.toks → Inv X pins σ H s → t D σ H →
  wpAny (model X.prog X.w) X.A (execs st X.env) (fun f s' => SP X pins D f s' ∧ ∀ u, f = .ret u → ∃ x k, u = Value.str x k ∧ n ≤ k) X.xe s
section
variable {X : Cx} {n : Nat} {st : Stmt} {rest : List Stmt} {t u : TS} {a b : Expr} {ta tb : TE} {p p' : Pos}
theorem bkN_cons (hr : ∀ D σ H, t D σ H → t { D with rt := fun _ _ => False } σ H) (h1 : PS X st t) (h2 : BkN X n rest u) : BkN X n (st :: rest) (tSeq t u) := by
  intro pins s σ H D hn I h
  have h0 := hr _ _ _ h
  refine wpAny_execs_cons (wpAny_mono (wpAny_toks_of hn (h1.run pins s σ H _ I h0)) (fun f s1 q => ?_) fun _ _ z => z.2)
  obtain ⟨hk, q⟩ := q
  cases f with
  | next =>
    obtain ⟨σ', H', I', q⟩ := q
    exact h2 pins s1 σ' H' D hk I' q
  | ret v => obtain ⟨_, _, _, _, _, q⟩ := q; exact q.elim
  | brk => exact ⟨q, fun _ e => nomatch e⟩
  | cont => exact ⟨q, fun _ e => nomatch e⟩
theorem bkN_cut (hr : ∀ D σ H, t D σ H → t { D with rt := fun _ _ => False } σ H) (h1 : PS X st t) (h2 : BkN X n rest u) : BkN X n (st :: rest) (tCut t u) := by
  intro pins s σ H D hn I h
  obtain ⟨Mid, hm, hu⟩ := h
  have h0 := hr _ _ _ hm
  refine wpAny_execs_cons (wpAny_mono (wpAny_toks_of hn (h1.run pins s σ H _ I h0)) (fun f s1 q => ?_) fun _ _ z => z.2)
  obtain ⟨hk, q⟩ := q
  cases f with
  | next =>
    obtain ⟨σ', H', I', q⟩ := q
    exact h2 pins s1 σ' H' D hk I' (hu _ _ q)
  | ret v => obtain ⟨_, _, _, _, _, q⟩ := q; exact q.elim
  | brk => exact ⟨q, fun _ e => nomatch e⟩
  | cont => exact ⟨q, fun _ e => nomatch e⟩
theorem bkN_ret (ha : PE X a ta) (hb : PE X b tb) (hs : PlainIx b) : BkN X n [.Return (some (.Subscript a b p)) p'] (tRet (tOp rIxS ta tb)) := by
  intro pins s σ H D hn I h
  refine wpAny_execs_cons (wpAny_Return_some (Subscript_ ?_))
  refine wpAny_mono (wpAny_toks_of hn (ha.run pins s σ H _ I h)) (fun v s1 q => ?_) fun _ _ z => z.2
  obtain ⟨hk, x, H1, I1, r1, q1⟩ := q
  refine wpAny_mono (wpAny_toks_of hk (hb.run pins s1 σ H1 _ I1 q1)) (fun u s2 q => ?_) fun _ _ z => z.2
  obtain ⟨hk2, y, H2, I2, r2, q2⟩ := q
  obtain ⟨z, i, c, rfl, rfl, hz, he, q⟩ := q2
  obtain ⟨tx1, rfl⟩ := r1
  obtain ⟨tx2, rfl⟩ := r2
  obtain ⟨j, h1, h2, h3, h4, h5⟩ := atI_get he
  have hl : z.cps.toList.length = z.length := by simp [Str.length]
  rw [hl] at h1 h4 h5
  have hn := line63
  refine tail_any (typeIs_str s2 z tx1) slot_str_getitem.lookup (getItem_str (c := c) ?_ ?_ ?_) (hs _ _)
  · rw [decide_eq_false (show ¬ i < -(2 ^ 63 : Int) by omega), decide_eq_false (show ¬ i ≥ 2 ^ 63 by omega)]; rfl
  · rw [h1]; simpa using h2
  · exact ⟨⟨.str ⟨#[c]⟩, σ, H2, I2.tok _, ⟨_, rfl⟩, q⟩, fun u e => by cases e; exact ⟨_, _, rfl, hk2⟩⟩
theorem BkN.nox (h : BkN X.nox n rest t) : BkN X n rest t := fun pins s σ H D hn I hw =>
  wpAny_mono (h pins s σ H D hn (I.wish _) hw) (fun _ _ q => ⟨q.1.unwish, q.2⟩) fun _ _ z => False.elim z
end

/-! ### a def that answers so -/
/-- the promise, and the answer a text made behind the call's begin -/
def FnTk (P : Program) (w : World) (K : PySem.W.Frag) (mg : Str → Option Value) (base : Heap) (k : Nat) (f : Addr) (fd : FuncData) (ps : List Str) (sp : Sp) : Prop :=
  ∀ (A : Around) (outer : List Env) (s : Shared) (H : Hp) (args : Args) (us : List Value) (vs : List V) (Q : VK) (E : XK), Room k A → Env0 P w K mg base A outer s H → BindsTo s fd args (ps.zip us) → Vals vs us → sp vs H Q E →
    codeAny (model P w) A (.call (.ref f) args) (fun r s' => CR CX0 outer P w H s Q E r s' ∧ ∀ u, r = .ok (.ret u) → ∃ x k, u = Value.str x k ∧ s.toks ≤ k) s
theorem fn_tk {P : Program} {w : World} {K : PySem.W.Frag} {mg : Str → Option Value} {base : Heap} {x qual : Str} {st : Stmt} {f : Addr} {fd : FuncData} {N ps : List Str} {k : Nat} {sp : Sp} (F : L2.Fun K x qual st f fd) (S : FnScope N ps (defScope st))
    (len : ∀ vs H Q E, sp vs H Q E → vs.length = ps.length)
    (hbody : ∀ (cdv : Value) (A : Around) (outer : List Env) (s : Shared) (H : Hp) (vs : List V) (Q : VK) (E : XK), Room k (A.deeper (envOfC qual (defScope st) s.heap.objs.size f cdv)) → sp vs H Q E →
      ∃ t, (∀ n, BkN (cxOf CX0 P w K mg base N qual (defScope st) f cdv A outer s H E).nox n (defBody st) t) ∧ t { nx := fun _ _ => False, rt := Q } (start N vs) H) : FnTk P w K mg base (k + 1) f fd ps sp := by
  obtain ⟨oc, od, kV, doc, pm, an, cdv, ct, osl, rfl, lk, hcd⟩ := F.ex
  intro A outer s H args us vs Q E room env0 binds vals promise
  have inK : K.In s.heap := env0.mod.kin.keeps fun b o e => (env0.bs b o e).1
  have nolim : s.heap.NoLimit := env0.mod.nolimit.keeps fun b o e => (env0.bs b o e).1
  have kinds : ∀ y ∈ ps.zip us, (defScope st).names.lookup y.1 = some .local ∨ ((defScope st).names.lookup y.1 = some .cell ∧ ((cellsFrom (s.heap.objs.size + 1) (defScope st).names []).lookup y.1).isSome = true) := by
    rintro ⟨n, v⟩ hy
    exact (S.par n (List.of_mem_zip hy).1).imp id fun q => ⟨q, PySem.W.cellsFrom_some _ _ _ (.inl q)⟩
  refine codeAny_call_function room.depth (inK _ _ lk) rfl S.co S.gen rfl (PySem.W.codeRec_of inK hcd) (binds _ _ _ _ ?_)
  refine wpAny_with_toks (Nat.le_refl s.toks) (wpAny_newFunctionEnv_cells S.kind kinds fun env he s1 called later => ?_)
  subst he
  obtain ⟨t, body, holds⟩ := hbody cdv A outer s H vs Q E (room.deeper _) promise
  have I := inv_start (CX := CX0) (E := E) (cd := cdv) S room.hd env0 (len _ _ _ _ promise) vals called
  refine ⟨nolim.keeps called.toInCall.keep, codeAny_func (wpAny_mono (body s.toks [] s1 (start N vs) H _ later (I.wish _) holds) (fun fl s' got => ?_) fun e s' got => got.elim)⟩
  obtain ⟨got, tok⟩ := got
  have got := got.unwish
  cases fl with
  | ret u =>
    obtain ⟨v, σ', H', J, rv, q⟩ := got
    refine ⟨⟨v, H', J.os, J.bare, J.base, J.hok, rv, q⟩, fun u' z => ?_⟩
    cases z
    exact tok _ rfl
  | next => obtain ⟨_, _, _, q⟩ := got; exact q.elim
  | brk => obtain ⟨_, _, _, q⟩ := got; exact q.elim
  | cont => obtain ⟨_, _, _, q⟩ := got; exact q.elim

/-! ### the call, and text.replace(sign, f(..)) -/
section
variable {X : Cx} {k : Nat} {f : Addr} {fd : FuncData} {ps : List Str} {sp : Sp} {x : Str} {p pos : Pos} {e : Expr} {es : List Expr} {t : TA}
/-- an expression that makes a text -/
def PEK (X : Cx) (e : Expr) (t : TE) : Prop := ∀ (pins : List (Addr × Obj)) (s : Shared) (σ : St) (H : Hp) (Q : VK), Inv X pins σ H s → t σ H Q →
  wpAny (model X.prog X.w) X.A (eval e X.env) (fun v s' => EP X pins σ Q v s' ∧ ∃ x k, v = Value.str x k ∧ s.toks ≤ k) X.xe s
theorem pek_call (F : FnTk X.prog X.w X.K X.mg X.base k f fd ps sp) (len : ∀ vs H Q E, sp vs H Q E → vs.length = ps.length) (hr : Room k X.A) (hg : Gl X x) (hm : X.mg x = some (.ref f)) (hk : PySem.W.keepIn X.K (.ref f) = true) (hb : Binds X.K fd ps [])
    (ha : PA X (e :: es) t) (hdb : (x == ("__debug__" : Str)) = false := by decide) (he : starEach (e :: es) X.env = (false, eval e X.env) :: starEach es X.env := by rfl) (hpl : (backTo pos (starEach es X.env)).any (·.1) = false := by rfl) :
    PEK X (.Call (.Name x p) (e :: es) [] pos) (tCall sp [] E0 t) := by
  intro pins s σ H Q I h
  refine wpAny_Call_Name_kw (ld_glob I hg hm ?_ hdb)
  refine PySem.W.callWith_K (h₀ := X.base) I.ok.mod.kin hk (wpAny_mono (wpAny_toks_of (Nat.le_refl s.toks) (ha.run pos pins s σ H _ I h)) (fun us s1 q => ?_) fun _ _ z => z.2) he hpl
  obtain ⟨hle, vs, H1, I1, r, q⟩ := q
  refine ⟨I1.kIn, ?_⟩
  have q' : sp vs H1 Q E0 := by
    have z : sp (vs ++ []) H1 Q E0 := q
    rwa [List.append_nil] at z
  have hl : us.length = ps.length := by rw [← r.length]; exact len _ _ _ _ q'
  have hbs := hb s1 us I1.kIn (by rw [List.append_nil]; exact hl)
  rw [List.append_nil] at hbs
  refine wpAny_call (codeAny_mono (F X.A X.stack s1 H1 ⟨us, []⟩ us vs Q E0 hr I1.env0 hbs r q') fun rr s' got => ?_)
  obtain ⟨got, tok⟩ := got
  match rr, got, tok with
  | .error e, got, _ => exact got.elim
  | .ok .next, got, _ => exact got.elim
  | .ok .brk, got, _ => exact got.elim
  | .ok .cont, got, _ => exact got.elim
  | .ok (.ret u), got, tok =>
    obtain ⟨y, k, e1, e2⟩ := tok u rfl
    exact ⟨I1.after got, y, k, e1, Nat.le_trans hle e2⟩
def tRepK (to : TE) (y : Str) (te : TE) : TE := fun σ H Q => to σ H fun v H1 => ∃ x, v = .str x ∧ te σ H1 fun u H2 => ∃ z, u = .str z ∧ x.length + (x.length + 1) * z.length ≤ 16777216 ∧ Q (.str (Txt.replace x y z)) H2
theorem pet_repK {o : Expr} {to te : TE} {y : Str} {j : Nat} {c0 apos : Pos} (hn : PySem.W.nsIn X.K cStatics sharingNotToldKey = some none) (ho : PE X o to) (hE : PEK X e te)
    (hst : starEach [.Constant (.str y) j c0, e] X.env = [(false, eval (.Constant (.str y) j c0) X.env), (false, eval e X.env)] := by rfl)
    (hbase : attributeBase o "replace" X.env (eval o X.env) = eval o X.env := by rfl) (hline : (apos.endLine == pos.line) = true := by rfl) :
    PET X (.Call (.Attribute o "replace" apos) [.Constant (.str y) j c0, e] [] pos) (tRepK to y te) := by
  intro pins s σ H Q one I h
  refine PySem.Call_method2 hbase hst hline (wpAny_mono (wpAny_toks_of one (ho.run pins s σ H _ I h)) (fun v s1 q => ?_) fun _ _ z => z.2)
  obtain ⟨one1, v', H1, I1, r1, a, rfl, q⟩ := q
  obtain ⟨ka, rfl⟩ := r1
  refine ⟨"str", _, PySem.F.plainAttrs_str, PySem.F.slot_str_replace, PySem.F.type_str_replace, typeIs_str _ _ _, (fun _ z => nomatch z), Calls.callWith_builtin rfl (Calls.evalArgs_plain ?_)⟩
  refine Calls.spliced_cons (Calls.Constant_str (Calls.spliced_cons (wpAny_mono (hE pins { s1 with toks := s1.toks + 1 } σ H1 _ (I1.tok _) q) (fun u s2 got => ?_) fun _ _ z => z)))
  obtain ⟨⟨u', H2, I2, r2, b, rfl, hz, q2⟩, x2, k2, e2, le⟩ := got
  obtain ⟨kb, rfl⟩ := r2
  have same : kb = k2 := (Value.str.inj e2).2
  have le' : s1.toks + 1 ≤ kb := same ▸ le
  refine Calls.spliced_nil ?_
  have n1 : s1.toks ≠ 0 := by omega
  have n2 : @Ne Nat kb 0 := by omega
  have n3 : @Ne Nat s1.toks kb := by omega
  exact PySem.SC.replaceA n1 n2 n3 hz (fun t' k => ⟨.str (Txt.replace a y b), H2, I2.tok k, ⟨t', rfl⟩, q2⟩) (booked I2 hn)
end

/-! ### statements behind a first token -/
section
variable {X : Cx} {st : Stmt} {rest : List Stmt} {t u : TS} {te : TE} {e : Expr} {pos : Pos}
theorem pst_set {i : Nat} {x : Str} {pos' : Pos} (hN : X.N.Nodup) (hi : X.N[i]? = some x) (hx : Loc X.env.scope x) (he : PET X e te) (hs : swapsWith e (some (.Name x pos')) pos.line X.env = pure false := by rfl)
    (hf : X.fn x = true ∨ X.env.scope.names.lookup x = some .local := by first | exact .inl rfl | exact .inr rfl | assumption) : PST X (.Assign [.Name x pos'] e pos) (tAsg te (gName i)) := by
  intro pins s σ H D one I h
  exact wpAny_Assign_Name (thn (he pins s σ H _ one I h) fun v s1 ⟨y, H1, I1, r1, q1⟩ => store_ok I1 hN hi hx r1 (fun s2 I2 => ⟨_, H1, I2, q1⟩) hf) hs
theorem psst_cut (h1 : PST X st t) (h2 : PSsT X rest u) : PSsT X (st :: rest) (tCut t u) := by
  intro pins s σ H D one I h
  obtain ⟨Mid, hm, hu⟩ := h
  refine wpAny_execs_cons (wpAny_mono (wpAny_toks_of one (h1 pins s σ H _ one I hm)) (fun f s1 q => ?_) fun _ _ z => z.2)
  obtain ⟨hk, q⟩ := q
  cases f with
  | next =>
    obtain ⟨σ', H', I', q⟩ := q
    exact h2 pins s1 σ' H' D hk I' (hu _ _ q)
  | ret v => exact q
  | brk => exact q
  | cont => exact q
theorem PSsT.nox (h : PSsT X.nox rest t) : PSsT X rest t := fun pins s σ H D one I hw =>
  wpAny_mono (h pins s σ H D one (I.wish _) hw) (fun _ _ q => q.unwish) fun _ _ z => False.elim z
end
/-- the rule of a def, a token being out -/
theorem fun_okT {P : Program} {w : World} {K : PySem.W.Frag} {mg : Str → Option Value} {base : Heap} {x qual : Str} {st : Stmt} {f : Addr} {fd : FuncData} {N ps : List Str} {k : Nat} {sp : Sp} (F : L2.Fun K x qual st f fd) (S : FnScope N ps (defScope st))
    (cells : ∀ y ∈ (defScope st).names, y.2 ≠ .cell) (some_par : 1 ≤ ps.length) (len : ∀ vs H Q E, sp vs H Q E → vs.length = ps.length)
    (hbody : ∀ (cdv : Value) (A : Around) (outer : List Env) (s : Shared) (H : Hp) (vs : List V) (Q : VK) (E : XK), Room k (A.deeper (envOfC qual (defScope st) s.heap.objs.size f cdv)) → sp vs H Q E →
      ∃ t, PSsT (cxOf CX0 P w K mg base N qual (defScope st) f cdv A outer s H E).nox (defBody st) t ∧ t { nx := fun _ H' => Q .non H', rt := Q } (start N vs) H) : FnOk P w K mg base CX0 (k + 1) f fd ps sp := by
  obtain ⟨oc, od, kV, doc, pm, an, cdv, ct, osl, rfl, lk, hcd⟩ := F.ex
  refine fn_ofT lk hcd S cells some_par len fun A outer s H vs Q E room promise => ?_
  obtain ⟨t, body, holds⟩ := hbody cdv A outer s H vs Q E room promise
  exact ⟨t, PSsT.nox body, holds⟩

/-! ### the reading -/
section
variable {σ : St} {H0 : Hp} {fs : Fs} {Φ : CV} {to te : TE}
theorem replS_one {c d : Nat} : ∀ a : List Nat, StrLaws.replS [c] [d] 0 a = a.map fun n => if n = c then d else n
  | [] => by rw [StrLaws.replS]; rfl
  | x :: a => by
    rw [StrLaws.replS, List.map_cons]
    by_cases h : x = c
    · rw [if_pos (by simp [h]), if_pos h]
      show [d] ++ StrLaws.replS [c] [d] 0 a = _
      rw [replS_one a]; rfl
    · rw [if_neg (by simp [h]), if_neg h, replS_one a]
theorem replace_one {a : List Nat} {c d : Nat} : Txt.replace (tx a) (tx [c]) (tx [d]) = tx (a.map fun n => if n = c then d else n) := by
  have h := StrLaws.replace_list (x := tx a) (y := tx [c]) (z := tx [d]) (Nat.le_refl 1)
  have e : StrLaws.replL [c] [d] a = a.map fun n => if n = c then d else n := replS_one a
  have h2 : (Txt.replace (tx a) (tx [c]) (tx [d])).cps.toList = a.map fun n => if n = c then d else n := h.trans e
  have h3 := congrArg List.toArray h2
  rw [Array.toArray_toList] at h3
  show _ = (⟨_⟩ : Str)
  rw [← h3]
theorem W.repK {a : List Nat} {c d : Nat} {y : Str} (hy : y = tx [c]) (hl : a.length ≤ 100000) (h : W to σ H0 fs fun v f1 => v = .str (tx a) ∧ W te σ H0 f1 fun u f2 => ∃ d, u = .str (tx [d]) ∧ Φ (.str (tx (a.map fun n => if n = c then d else n))) f2) : W (tRepK to y te) σ H0 fs Φ := by
  subst hy
  intro H k Q cc
  refine h H k _ fun v f1 H1 k1 q => ?_
  obtain ⟨rfl, q⟩ := q
  refine ⟨tx a, rfl, q H1 k1 _ fun u f2 H2 k2 q2 => ?_⟩
  obtain ⟨d, rfl, q2⟩ := q2
  refine ⟨tx [d], rfl, ?_, ?_⟩
  · rw [tx_len, tx_len]
    show a.length + (a.length + 1) * 1 ≤ _
    omega
  · rw [replace_one]
    exact cc _ _ _ k2 q2
end
end Pa

namespace Pa
open Ser

/-! ### what divides all numbers of a row -/
def cont : List Int → Nat
  | [] => 0
  | a :: r => Nat.gcd a.natAbs (cont r)
theorem cont_app (xs ys : List Int) : cont (xs ++ ys) = Nat.gcd (cont xs) (cont ys) := by
  induction xs with
  | nil => exact (Nat.gcd_zero_left _).symm
  | cons a r ih =>
    show Nat.gcd a.natAbs (cont (r ++ ys)) = Nat.gcd (Nat.gcd a.natAbs (cont r)) (cont ys)
    rw [ih, Nat.gcd_assoc]
theorem cont_snoc (xs : List Int) (x : Int) : cont (xs ++ [x]) = Nat.gcd (cont xs) x.natAbs := by
  rw [cont_app]
  show Nat.gcd _ (Nat.gcd x.natAbs 0) = _
  rw [Nat.gcd_zero_right]
theorem cont_dvd {xs : List Int} {x : Int} (h : x ∈ xs) : (cont xs : Int) ∣ x := by
  refine Int.ofNat_dvd_left.mpr ?_
  induction xs with
  | nil => exact absurd h List.not_mem_nil
  | cons a r ih =>
    rcases List.mem_cons.mp h with rfl | h
    · exact Nat.gcd_dvd_left _ _
    · exact Nat.dvd_trans (Nat.gcd_dvd_right _ _) (ih h)
theorem dvd_cont {xs : List Int} {d : Nat} (h : ∀ x ∈ xs, (d : Int) ∣ x) : d ∣ cont xs := by
  induction xs with
  | nil => exact Nat.dvd_zero d
  | cons a r ih => exact Nat.dvd_gcd (Int.ofNat_dvd_left.mp (h a List.mem_cons_self)) (ih fun x hx => h x (List.mem_cons_of_mem _ hx))
theorem cont_zero {xs : List Int} (h : cont xs = 0) : ∀ x ∈ xs, x = 0 := fun x hx => by
  have := cont_dvd hx
  rw [h] at this
  exact Int.zero_dvd.mp this
theorem cont_pos {xs : List Int} (ht : Tr xs) (hne : xs ≠ []) : 0 < cont xs :=
  Nat.pos_of_ne_zero fun z => tr_last ht hne (cont_zero z _ (List.getLast_mem hne))
theorem cont_le {xs : List Int} {x : Int} (h : x ∈ xs) (h0 : x ≠ 0) : cont xs ≤ x.natAbs :=
  Nat.le_of_dvd (Int.natAbs_pos.mpr h0) (Int.ofNat_dvd_left.mp (cont_dvd h))
theorem cont_bd {b : Nat} {xs : List Int} (h : BdL b xs) : cont xs < 2 ^ b := by
  induction xs with
  | nil => exact Nat.two_pow_pos b
  | cons a r ih =>
    by_cases h0 : a = 0
    · subst h0
      show Nat.gcd 0 (cont r) < _
      rw [Nat.gcd_zero_left]
      exact ih fun x hx => h x (List.mem_cons_of_mem _ hx)
    · exact Nat.lt_of_le_of_lt (cont_le List.mem_cons_self h0) (h a List.mem_cons_self)
/-- its sign as the last number's -/
def sgc (xs : List Int) : Int := if xs.getLast?.getD 0 < 0 then -(cont xs : Int) else (cont xs : Int)
theorem sgc_abs (xs : List Int) : (sgc xs).natAbs = cont xs := by
  unfold sgc
  split <;> simp
theorem sgc_ne {xs : List Int} (ht : Tr xs) (hne : xs ≠ []) : sgc xs ≠ 0 := fun h => by
  have := sgc_abs xs
  rw [h] at this
  exact absurd this (Nat.ne_of_lt (cont_pos ht hne))
theorem sgc_dvd {xs : List Int} {x : Int} (h : x ∈ xs) : sgc xs ∣ x := by
  unfold sgc
  split
  · exact Int.neg_dvd.mpr (cont_dvd h)
  · exact cont_dvd h
def divBy (xs : List Int) (c : Int) : List Int := xs.map fun x => x.fdiv c
def simp' (xs : List Int) : List Int := divBy xs (sgc xs)
theorem fdiv_of_dvd {x c : Int} (hc : c ≠ 0) (h : c ∣ x) : c * x.fdiv c = x := by
  obtain ⟨k, rfl⟩ := h
  rw [Int.mul_fdiv_cancel_left k hc]
theorem divBy_map {xs : List Int} {c : Int} (hc : c ≠ 0) (h : ∀ x ∈ xs, c ∣ x) : (divBy xs c).map (fun x => c * x) = xs := by
  unfold divBy
  rw [List.map_map]
  conv => rhs; rw [← List.map_id xs]
  exact List.map_congr_left fun x hx => fdiv_of_dvd hc (h x hx)
theorem S_divBy {xs : List Int} {c : Int} (hc : c ≠ 0) (h : ∀ x ∈ xs, c ∣ x) : C c * S (divBy xs c) = S xs := by
  rw [← S_map_mul, divBy_map hc h]
theorem divBy_tr {xs : List Int} {c : Int} (hc : c ≠ 0) (h : ∀ x ∈ xs, c ∣ x) (ht : Tr xs) : Tr (divBy xs c) := by
  rcases snoc_cases xs with rfl | ⟨ys, y, rfl⟩
  · exact tr_nil
  · have hy : y ≠ 0 := by
      have := tr_last ht (by simp)
      simpa using this
    unfold divBy
    rw [List.map_append]
    refine tr_of_last fun z => hy ?_
    have z' : y.fdiv c = 0 := z
    rw [← fdiv_of_dvd hc (h y (by simp)), z', Int.mul_zero]
theorem divBy_len (xs : List Int) (c : Int) : (divBy xs c).length = xs.length := List.length_map _
theorem divBy_bd {b : Nat} {xs : List Int} {c : Int} (hc : c ≠ 0) (h : ∀ x ∈ xs, c ∣ x) (hb : BdL b xs) : BdL b (divBy xs c) := fun y hy => by
  obtain ⟨x, hx, rfl⟩ := List.mem_map.mp hy
  have e := fdiv_of_dvd hc (h x hx)
  refine Nat.lt_of_le_of_lt ?_ (hb x hx)
  rw [← e, Int.natAbs_mul, e]
  exact Nat.le_mul_of_pos_left _ (Int.natAbs_pos.mpr hc)
theorem cont_map_mul (xs : List Int) (c : Int) : cont (xs.map fun x => c * x) = c.natAbs * cont xs := by
  induction xs with
  | nil => rfl
  | cons a r ih =>
    show Nat.gcd (c * a).natAbs (cont (r.map fun x => c * x)) = c.natAbs * Nat.gcd a.natAbs (cont r)
    rw [ih, Int.natAbs_mul, Nat.gcd_mul_left]
theorem cont_divBy {xs : List Int} {c : Int} (hc : c ≠ 0) (h : ∀ x ∈ xs, c ∣ x) : c.natAbs * cont (divBy xs c) = cont xs := by
  rw [← cont_map_mul, divBy_map hc h]
theorem simp_nil : simp' [] = [] := rfl
theorem simp_tr {xs : List Int} (ht : Tr xs) : Tr (simp' xs) := by
  by_cases hne : xs = []
  · subst hne; exact tr_nil
  · exact divBy_tr (sgc_ne ht hne) (fun x hx => sgc_dvd hx) ht
theorem simp_cont {xs : List Int} (ht : Tr xs) (hne : xs ≠ []) : cont (simp' xs) = 1 := by
  have e := cont_divBy (sgc_ne ht hne) fun x hx => sgc_dvd (xs := xs) hx
  rw [sgc_abs] at e
  exact Nat.eq_of_mul_eq_mul_left (cont_pos ht hne) (by rw [Nat.mul_one]; exact e)
theorem S_simp {xs : List Int} (ht : Tr xs) : C (sgc xs) * S (simp' xs) = S xs := by
  by_cases hne : xs = []
  · subst hne
    show C 0 * S [] = S []
    rw [S_nil]; grind
  · exact S_divBy (sgc_ne ht hne) fun x hx => sgc_dvd hx
theorem simp_len (xs : List Int) : (simp' xs).length = xs.length := divBy_len _ _
theorem simp_bd {b : Nat} {xs : List Int} (ht : Tr xs) (hb : BdL b xs) : BdL b (simp' xs) := by
  by_cases hne : xs = []
  · subst hne; exact hb
  · exact divBy_bd (sgc_ne ht hne) (fun x hx => sgc_dvd hx) hb
theorem simp_ne {xs : List Int} (hne : xs ≠ []) : simp' xs ≠ [] := fun z => hne (List.length_eq_zero_iff.mp (by rw [← simp_len, z]; rfl))
/-- its last number is above nought -/
theorem simp_last {xs : List Int} (ht : Tr xs) (hne : xs ≠ []) : 0 < (simp' xs).getLast (simp_ne hne) := by
  rcases snoc_cases xs with rfl | ⟨ys, y, rfl⟩
  · exact absurd rfl hne
  · have hy : y ≠ 0 := by simpa using tr_last ht hne
    have e1 : (simp' (ys ++ [y])).getLast (simp_ne hne) = y.fdiv (sgc (ys ++ [y])) := by
      unfold simp' divBy
      simp only [List.map_append, List.map_cons, List.map_nil, List.getLast_append]
      simp
    have hp := cont_pos ht hne
    have hd : (cont (ys ++ [y]) : Int) ∣ y := cont_dvd (by simp)
    rw [e1]
    unfold sgc
    have e2 : (ys ++ [y]).getLast?.getD 0 = y := by simp
    rw [e2]
    obtain ⟨k, hk⟩ := hd
    generalize cont (ys ++ [y]) = c at hp hk
    have hc : (0 : Int) < (c : Int) := by omega
    subst hk
    split
    · rename_i hneg
      have e3 : (c : Int) * k = -(c : Int) * -k := (Int.neg_mul_neg _ _).symm
      rw [e3, Int.mul_fdiv_cancel_left _ (by omega)]
      have := Int.neg_of_mul_neg_right (a := (c : Int)) (b := k)
      have hk : k < 0 := by
        refine Int.not_le.mp fun hk => ?_
        have := Int.mul_nonneg (Int.le_of_lt hc) hk
        omega
      omega
    · rename_i hneg
      rw [Int.mul_fdiv_cancel_left _ (by omega)]
      refine Int.not_le.mp fun hk => ?_
      have := Int.mul_nonpos_of_nonneg_of_nonpos (Int.le_of_lt hc) hk
      omega
/-- made with the content above nought, then turned -/
theorem simp_eq {xs : List Int} (ht : Tr xs) (hne : xs ≠ []) : simp' xs = if (divBy xs (cont xs)).getLast?.getD 0 < 0 then (divBy xs (cont xs)).map (fun x => -x) else divBy xs (cont xs) := by
  have hp := cont_pos ht hne
  rcases snoc_cases xs with rfl | ⟨ys, y, rfl⟩
  · exact absurd rfl hne
  have hd : (cont (ys ++ [y]) : Int) ∣ y := cont_dvd (by simp)
  have e1 : (divBy (ys ++ [y]) (cont (ys ++ [y]))).getLast?.getD 0 = y.fdiv (cont (ys ++ [y])) := by
    unfold divBy
    rw [List.map_append]
    simp
  have e2 : (ys ++ [y]).getLast?.getD 0 = y := by simp
  have iff : y.fdiv (cont (ys ++ [y])) < 0 ↔ y < 0 := by
    obtain ⟨k, hk⟩ := hd
    have hc : (0 : Int) < (cont (ys ++ [y]) : Int) := by omega
    generalize cont (ys ++ [y]) = c at hp hk hc
    subst hk
    rw [Int.mul_fdiv_cancel_left _ (by omega)]
    constructor
    · intro hk
      exact Int.mul_neg_of_pos_of_neg hc hk
    · intro h
      refine Int.not_le.mp fun hk => ?_
      have := Int.mul_nonneg (Int.le_of_lt hc) hk
      omega
  rw [e1]
  unfold simp' sgc
  rw [e2]
  by_cases hy : y < 0
  · rw [if_pos hy, if_pos (iff.mpr hy)]
    unfold divBy
    rw [List.map_map]
    refine List.map_congr_left fun x hx => ?_
    obtain ⟨k, hk⟩ := cont_dvd hx
    show x.fdiv (-(cont (ys ++ [y]) : Int)) = -(x.fdiv (cont (ys ++ [y])))
    have hc : (cont (ys ++ [y]) : Int) ≠ 0 := by omega
    have e3 : (cont (ys ++ [y]) : Int) * k = -(cont (ys ++ [y]) : Int) * -k := (Int.neg_mul_neg _ _).symm
    conv => rhs; rw [hk, Int.mul_fdiv_cancel_left _ hc]
    rw [hk, e3, Int.mul_fdiv_cancel_left _ (by omega)]
  · rw [if_neg hy, if_neg (fun h => hy (iff.mp h))]
end Pa

namespace Pa
open Ser

/-! ### division with a rest, without fractions -/
/-- nothing but 1 divides the number and the two rows -/
def CP (m : Int) (f r : Ser) : Prop := ∀ d : Nat, (d : Int) ∣ m → (∀ i, (d : Int) ∣ f i) → (∀ i, (d : Int) ∣ r i) → d = 1
theorem dvd_S {d : Int} {xs : List Int} (h : ∀ x ∈ xs, d ∣ x) (i : Nat) : d ∣ S xs i := by
  rw [S_at, List.getD_eq_getElem?_getD]
  cases e : xs[i]? with
  | none => exact Int.dvd_zero d
  | some x => exact h x (List.mem_of_getElem? e)
theorem dvd_of_S {d : Int} {xs : List Int} (h : ∀ i, d ∣ S xs i) : ∀ x ∈ xs, d ∣ x := fun x hx => by
  obtain ⟨i, hi, rfl⟩ := List.getElem_of_mem hx
  have := h i
  rw [S_at, List.getD_eq_getElem?_getD, List.getElem?_eq_getElem hi] at this
  exact this
theorem CP.gcd {m : Int} {q r : List Int} (h : CP m (S q) (S r)) : Nat.gcd m.natAbs (Nat.gcd (cont q) (cont r)) = 1 := by
  refine h _ (Int.ofNat_dvd_left.mpr (Nat.gcd_dvd_left _ _)) (dvd_S fun x hx => ?_) (dvd_S fun x hx => ?_)
  · exact Int.dvd_trans (Int.ofNat_dvd.mpr (Nat.dvd_trans (Nat.gcd_dvd_right _ _) (Nat.gcd_dvd_left _ _))) (cont_dvd hx)
  · exact Int.dvd_trans (Int.ofNat_dvd.mpr (Nat.dvd_trans (Nat.gcd_dvd_right _ _) (Nat.gcd_dvd_right _ _))) (cont_dvd hx)
/-- what a step multiplies by, and what it puts -/
def more (lc top : Int) : Int := (lc.natAbs : Int).fdiv (Nat.gcd lc.natAbs top.natAbs : Nat)
def putv (lc top : Int) : Int := (more lc top * top).fdiv lc
theorem step_facts {lc top : Int} (h1 : lc ≠ 0) (h2 : top ≠ 0) : 1 ≤ more lc top ∧ (more lc top).natAbs ≤ lc.natAbs ∧ putv lc top * lc = more lc top * top ∧ (putv lc top).natAbs ≤ top.natAbs ∧ Nat.gcd (more lc top).natAbs (putv lc top).natAbs = 1 := by
  have hg : 0 < Nat.gcd lc.natAbs top.natAbs := Nat.gcd_pos_of_pos_left _ (Int.natAbs_pos.mpr h1)
  obtain ⟨c, hc⟩ : ((Nat.gcd lc.natAbs top.natAbs : Nat) : Int) ∣ lc := Int.ofNat_dvd_left.mpr (Nat.gcd_dvd_left _ _)
  obtain ⟨u, hu⟩ : ((Nat.gcd lc.natAbs top.natAbs : Nat) : Int) ∣ top := Int.ofNat_dvd_left.mpr (Nat.gcd_dvd_right _ _)
  have hcu : Nat.gcd c.natAbs u.natAbs = 1 := by
    have e : Nat.gcd lc.natAbs top.natAbs * Nat.gcd c.natAbs u.natAbs = Nat.gcd lc.natAbs top.natAbs * 1 := by
      rw [← Nat.gcd_mul_left, Nat.mul_one]
      have a1 := congrArg Int.natAbs hc
      have a2 := congrArg Int.natAbs hu
      rw [Int.natAbs_mul, Int.natAbs_natCast] at a1 a2
      rw [← a1, ← a2]
    exact Nat.eq_of_mul_eq_mul_left hg e
  unfold putv more
  generalize Nat.gcd lc.natAbs top.natAbs = g at hg hc hu
  have hg0 : (g : Int) ≠ 0 := by omega
  have c0 : c ≠ 0 := fun z => h1 (by rw [hc, z, Int.mul_zero])
  have e1 : (lc.natAbs : Int).fdiv (g : Int) = (c.natAbs : Int) := by
    have a1 : (lc.natAbs : Int) = (g : Int) * (c.natAbs : Int) := by
      rw [hc, Int.natAbs_mul, Int.natAbs_natCast, Int.natCast_mul]
    rw [a1, Int.mul_fdiv_cancel_left _ hg0]
  rw [e1]
  have hcs : (c.natAbs : Int) = c * c.sign := by
    have := Int.sign_mul_natAbs c
    rcases Int.lt_trichotomy c 0 with h | h | h
    · rw [Int.sign_eq_neg_one_of_neg h]; omega
    · exact absurd h c0
    · rw [Int.sign_eq_one_of_pos h]; omega
  have e2 : ((c.natAbs : Int) * top).fdiv lc = c.sign * u := by
    have a2 : (c.natAbs : Int) * top = lc * (c.sign * u) := by
      rw [hcs, hu, hc]; grind
    rw [a2, Int.mul_fdiv_cancel_left _ h1]
  rw [e2]
  have sa : c.sign.natAbs = 1 := by
    rcases Int.lt_trichotomy c 0 with h | h | h
    · rw [Int.sign_eq_neg_one_of_neg h]; rfl
    · exact absurd h c0
    · rw [Int.sign_eq_one_of_pos h]; rfl
  refine ⟨by omega, ?_, ?_, ?_, ?_⟩
  · rw [hc, Int.natAbs_mul, Int.natAbs_natCast, Int.natAbs_natCast]
    exact Nat.le_mul_of_pos_left _ hg
  · rw [hcs, hu, hc]; grind
  · rw [Int.natAbs_mul, sa, Nat.one_mul, hu, Int.natAbs_mul, Int.natAbs_natCast]
    exact Nat.le_mul_of_pos_left _ hg
  · rw [Int.natAbs_natCast, Int.natAbs_mul, sa, Nat.one_mul]; exact hcu
theorem nat_dvd_of_coprime {d : Nat} {m x : Int} (h : Nat.gcd d m.natAbs = 1) (hd : (d : Int) ∣ m * x) : (d : Int) ∣ x := by
  rw [Int.ofNat_dvd_left] at hd ⊢
  rw [Int.natAbs_mul] at hd
  exact Nat.Coprime.dvd_of_dvd_mul_left h hd

/-- what holds behind t steps of n -/
structure DI (xs ys : List Int) (a b n t : Nat) (m : Int) (f r : List Int) : Prop where
  m1 : 1 ≤ m
  fl : f.length = n
  rl : r.length = xs.length
  eq : C m * S xs = S ys * S f + S r
  rz : ∀ i, n - t + ys.length ≤ i + 1 → S r i = 0
  fz : ∀ i, i < n - t → S f i = 0
  cp : CP m (S f) (S r)
  mb : Bd (t * b + 1) m
  fb : BdL (a + t * (b + 1)) f
  rb : BdL (a + t * (b + 1)) r
theorem DI.start {xs ys : List Int} {a b n : Nat} (hn : n = xs.length + 1 - ys.length) (ha : BdL a xs) : DI xs ys a b n 0 1 (List.replicate n 0) xs where
  m1 := Int.le_refl 1
  fl := List.length_replicate
  rl := rfl
  eq := by rw [S_zeros, ← one_eq]; grind
  rz := fun i hi => S_out (by omega)
  fz := fun i _ => by rw [S_zeros, zero_at]
  cp := fun d hd _ _ => Int.ofNat.inj (Int.eq_one_of_dvd_one (Int.natCast_nonneg d) hd)
  mb := by unfold Bd; rw [Nat.zero_mul]; decide
  fb := fun x hx => by rw [(List.mem_replicate.mp hx).2]; exact Bd.zero
  rb := ha.mono (by omega)
theorem DI.skip {xs ys : List Int} {a b n t : Nat} {m : Int} {f r : List Int} (h : DI xs ys a b n t m f r) (ht : t < n) (hy : 0 < ys.length) (h0 : S r (n - 1 - t + ys.length - 1) = 0) : DI xs ys a b n (t + 1) m f r where
  m1 := h.m1
  fl := h.fl
  rl := h.rl
  eq := h.eq
  rz := fun i hi => by
    by_cases e : n - t + ys.length ≤ i + 1
    · exact h.rz i e
    · have : i = n - 1 - t + ys.length - 1 := by omega
      rw [this]; exact h0
  fz := fun i hi => h.fz i (by omega)
  cp := h.cp
  mb := h.mb.mono (by rw [Nat.succ_mul]; omega)
  fb := h.fb.mono (by rw [Nat.succ_mul]; omega)
  rb := h.rb.mono (by rw [Nat.succ_mul]; omega)
theorem S_one_at (j i : Nat) (v : Int) : (C v * X ^ j : Ser) i = if i = j then v else 0 := by
  rw [C_mul]
  have e : (X ^ j : Ser) = X ^ j * 1 := by grind
  rw [e, X_pow_mul]
  by_cases h : i = j
  · subst h
    rw [if_pos (Nat.le_refl _), if_pos rfl, Nat.sub_self]
    exact Int.mul_one v
  · rw [if_neg h]
    by_cases hl : j ≤ i
    · rw [if_pos hl]
      obtain ⟨k, hk⟩ : ∃ k, i - j = k + 1 := ⟨i - j - 1, by omega⟩
      rw [hk]
      exact Int.mul_zero v
    · rw [if_neg hl, Int.mul_zero]
theorem C_X_at (v : Int) (j : Nat) (g : Ser) (i : Nat) : (C v * X ^ j * g : Ser) i = if j ≤ i then v * g (i - j) else 0 := by
  have e : (C v * X ^ j * g : Ser) = C v * (X ^ j * g) := by grind
  rw [e, C_mul, X_pow_mul]
  split
  · rfl
  · rw [Int.mul_zero]
/-- the rest behind a step -/
def sbIn (v : Int) (ys : List Int) (j k : Nat) (acc : List Int) : List Int := acc.set (j + k) (acc.getD (j + k) 0 - v * ys.getD k 0)
theorem sbIn_eq (v : Int) (ys : List Int) (j : Nat) : sbIn v ys j = tmIn (-v) ys j := by
  funext k acc
  unfold sbIn tmIn
  rw [Int.neg_mul, ← Int.sub_eq_add_neg]
theorem DI.step {xs ys : List Int} {a b n t : Nat} {m : Int} {f r : List Int} (h : DI xs ys a b n t m f r) (ht : t < n) (hn : n = xs.length + 1 - ys.length) (hy : 0 < ys.length) (hb : BdL b ys)
    (hlc : S ys (ys.length - 1) ≠ 0) (htop : S r (n - 1 - t + ys.length - 1) ≠ 0) :
    DI xs ys a b n (t + 1) (m * more (S ys (ys.length - 1)) (S r (n - 1 - t + ys.length - 1)))
      ((f.map fun x => more (S ys (ys.length - 1)) (S r (n - 1 - t + ys.length - 1)) * x).set (n - 1 - t) (putv (S ys (ys.length - 1)) (S r (n - 1 - t + ys.length - 1))))
      (lp (sbIn (putv (S ys (ys.length - 1)) (S r (n - 1 - t + ys.length - 1))) ys (n - 1 - t)) ys.length (r.map fun x => more (S ys (ys.length - 1)) (S r (n - 1 - t + ys.length - 1)) * x)) := by
  obtain ⟨f1, f2, f3, f4, f5⟩ := step_facts hlc htop
  have hlb : (S ys (ys.length - 1)).natAbs < 2 ^ b := hb.at _
  have htb : (S r (n - 1 - t + ys.length - 1)).natAbs < 2 ^ (a + t * (b + 1)) := h.rb.at _
  rw [sbIn_eq]
  generalize more (S ys (ys.length - 1)) (S r (n - 1 - t + ys.length - 1)) = mo at *
  generalize putv (S ys (ys.length - 1)) (S r (n - 1 - t + ys.length - 1)) = v at *
  have hpl : n - 1 - t < (f.map fun x => mo * x).length := by rw [List.length_map, h.fl]; omega
  have hf0 : (f.map fun x => mo * x).getD (n - 1 - t) 0 = 0 := by
    have := congrFun (S_map_mul f mo) (n - 1 - t)
    rw [C_mul, h.fz _ (by omega), Int.mul_zero] at this
    exact this
  have Sf : S ((f.map fun x => mo * x).set (n - 1 - t) v) = C mo * S f + C v * X ^ (n - 1 - t) := by
    have e : v = (f.map fun x => mo * x).getD (n - 1 - t) 0 + v := by rw [hf0, Int.zero_add]
    conv => lhs; rw [e]
    rw [S_set hpl, S_map_mul]
  have rlen : n - 1 - t + ys.length ≤ (r.map fun x => mo * x).length := by rw [List.length_map, h.rl]; omega
  have Sr : S (lp (tmIn (-v) ys (n - 1 - t)) ys.length (r.map fun x => mo * x)) = C mo * S r + C (-v) * X ^ (n - 1 - t) * S ys := by
    rw [S_row _ (Nat.le_refl _) rlen, S_map_mul, List.take_length]
  have hmob : Bd b mo := Nat.lt_of_le_of_lt f2 hlb
  have hvb : Bd (a + t * (b + 1)) v := Nat.lt_of_le_of_lt f4 htb
  refine ⟨?_, ?_, ?_, ?_, ?_, ?_, ?_, ?_, ?_, ?_⟩
  · have h1 : (0 : Int) < m := by have := h.m1; omega
    have h2 : (0 : Int) < mo := by omega
    have h3 := Int.mul_pos h1 h2
    omega
  · rw [List.length_set, List.length_map, h.fl]
  · rw [lp_len (fun i a => tmIn_len _ _ _ _ _), List.length_map, h.rl]
  · rw [Sf, Sr, C_mulC, C_neg]
    have e := h.eq
    grind
  · intro i hi
    rw [Sr, add_at, C_mul, C_X_at]
    by_cases e : n - t + ys.length ≤ i + 1
    · rw [h.rz i e, Int.mul_zero, if_pos (by omega), S_out (xs := ys) (by omega), Int.mul_zero]; rfl
    · have ei : i = n - 1 - t + ys.length - 1 := by omega
      rw [if_pos (by omega), show i - (n - 1 - t) = ys.length - 1 by omega, ei, Int.neg_mul, f3]
      omega
  · intro i hi
    rw [Sf, add_at, C_mul, S_one_at, if_neg (by omega), h.fz i (by omega), Int.mul_zero]; rfl
  · intro d h1 h2 h3
    have hv : (d : Int) ∣ v := by
      have := h2 (n - 1 - t)
      rw [Sf, add_at, C_mul, S_one_at, if_pos rfl, h.fz _ (by omega), Int.mul_zero, Int.zero_add] at this
      exact this
    have hco : Nat.gcd d mo.natAbs = 1 := by
      have e1 : Nat.gcd d mo.natAbs ∣ mo.natAbs := Nat.gcd_dvd_right _ _
      have e2 : Nat.gcd d mo.natAbs ∣ v.natAbs := Nat.dvd_trans (Nat.gcd_dvd_left _ _) (Int.ofNat_dvd_left.mp hv)
      have := Nat.dvd_gcd e1 e2
      rw [f5] at this
      exact Nat.dvd_one.mp this
    refine h.cp d (nat_dvd_of_coprime hco (by rw [Int.mul_comm]; exact h1)) (fun i => ?_) (fun i => ?_)
    · refine nat_dvd_of_coprime hco ?_
      have := h2 i
      rw [Sf, add_at, C_mul, S_one_at] at this
      by_cases e : i = n - 1 - t
      · rw [e, h.fz _ (by omega), Int.mul_zero]; exact Int.dvd_zero _
      · rw [if_neg e, Int.add_zero] at this; exact this
    · refine nat_dvd_of_coprime hco ?_
      have := h3 i
      rw [Sr, add_at, C_mul, C_X_at] at this
      split at this
      · have e3 : (d : Int) ∣ -v * S ys (i - (n - 1 - t)) := Int.dvd_mul_of_dvd_left (Int.dvd_neg.mpr hv)
        exact (Int.dvd_add_left e3).mp this
      · rw [Int.add_zero] at this; exact this
  · exact (h.mb.mul hmob).mono (by rw [Nat.succ_mul]; omega)
  · intro x hx
    rcases List.mem_or_eq_of_mem_set hx with hx | rfl
    · obtain ⟨y, hy, rfl⟩ := List.mem_map.mp hx
      exact (hmob.mul (h.fb y hy)).mono (by rw [Nat.succ_mul]; omega)
    · exact hvb.mono (by rw [Nat.succ_mul]; omega)
  · intro x hx
    obtain ⟨i, hi, rfl⟩ := List.getElem_of_mem hx
    have ex : (lp (tmIn (-v) ys (n - 1 - t)) ys.length (r.map fun x => mo * x))[i] = S (lp (tmIn (-v) ys (n - 1 - t)) ys.length (r.map fun x => mo * x)) i := by
      rw [S_at, List.getD_eq_getElem?_getD, List.getElem?_eq_getElem hi]; rfl
    rw [ex, Sr, add_at, C_mul, C_X_at]
    have h1 : Bd (a + t * (b + 1) + b) (mo * S r i) := (hmob.mul (h.rb.at i)).mono (by omega)
    have h2 : Bd (a + t * (b + 1) + b) (if n - 1 - t ≤ i then -v * S ys (i - (n - 1 - t)) else 0) := by
      split
      · exact (hvb.neg.mul (hb.at _)).mono (by omega)
      · exact Bd.zero
    exact (h1.add h2).mono (by rw [Nat.succ_mul]; omega)
/-- so many times the one is the other times the quotient and the rest; the number, the quotient and the rest have nothing in common -/
structure Dv (xs ys : List Int) (m : Int) (q r : List Int) : Prop where
  m1 : 1 ≤ m
  eq : C m * S xs = S ys * S q + S r
  qt : Tr q
  rt : Tr r
  rl : r.length < ys.length
  cp : CP m (S q) (S r)
theorem DI.dv {xs ys : List Int} {a b n : Nat} {m : Int} {f r : List Int} (h : DI xs ys a b n n m f r) (hy : 0 < ys.length) : Dv xs ys m (trim f) (trim r) where
  m1 := h.m1
  eq := by rw [S_trim, S_trim]; exact h.eq
  qt := tr_trim _
  rt := tr_trim _
  rl := by
    have := trim_len_le (xs := r) (n := ys.length - 1) fun i hi => h.rz i (by omega)
    omega
  cp := by rw [S_trim, S_trim]; exact h.cp
end Pa

namespace Pa
open Ser

/-! ### how far a series goes -/
def Fin (n : Nat) (f : Ser) : Prop := ∀ i, n ≤ i → f i = 0
theorem Fin.S (xs : List Int) : Fin xs.length (Pa.S xs) := fun _ h => S_out h
theorem Fin.mono {n m : Nat} {f : Ser} (h : Fin n f) (hm : n ≤ m) : Fin m f := fun i hi => h i (by omega)
theorem Fin.zero (n : Nat) : Fin n 0 := fun i _ => zero_at i
theorem Fin.add {n : Nat} {f g : Ser} (hf : Fin n f) (hg : Fin n g) : Fin n (f + g) := fun i hi => by rw [add_at, hf i hi, hg i hi]; rfl
theorem Fin.sub {n : Nat} {f g : Ser} (hf : Fin n f) (hg : Fin n g) : Fin n (f - g) := fun i hi => by rw [sub_at, hf i hi, hg i hi]; rfl
theorem Fin.neg {n : Nat} {f : Ser} (hf : Fin n f) : Fin n (-f) := fun i hi => by rw [neg_at, hf i hi]; rfl
theorem Fin.C (a : Int) : Fin 1 (Ser.C a) := fun i hi => by
  obtain ⟨k, rfl⟩ : ∃ k, i = k + 1 := ⟨i - 1, by omega⟩
  exact C_succ a k
theorem Fin.smul {n : Nat} {f : Ser} (a : Int) (hf : Fin n f) : Fin n (Ser.C a * f) := fun i hi => by rw [C_mul, hf i hi, Int.mul_zero]
theorem Fin.eq_zero {f : Ser} (h : Fin 0 f) : f = 0 := Ser.ext fun i => by rw [h i (Nat.zero_le _), zero_at]
/-- the product's top number -/
theorem Fin.top {d e : Nat} {f g : Ser} (hf : Fin (d + 1) f) (hg : Fin (e + 1) g) : (f * g) (d + e) = f d * g e ∧ Fin (d + e + 1) (f * g) := by
  induction d generalizing f with
  | zero =>
    have ht : tail f = 0 := Ser.ext fun i => by rw [tail_at, hf _ (by omega), zero_at]
    have key : ∀ n, (f * g) n = f 0 * g n := fun n => by
      cases n with
      | zero => rfl
      | succ n => rw [mul_succ_at, ht, zero_mul_at, Int.add_zero]
    refine ⟨by rw [Nat.zero_add, key], fun i hi => ?_⟩
    rw [key, hg i (by omega), Int.mul_zero]
  | succ d ih =>
    have ht : Fin (d + 1) (tail f) := fun i hi => hf (i + 1) (by omega)
    obtain ⟨h1, h2⟩ := ih ht
    refine ⟨?_, fun i hi => ?_⟩
    · rw [show d + 1 + e = (d + e) + 1 by omega, mul_succ_at, hg (d + e + 1) (by omega), Int.mul_zero, Int.zero_add, h1]; rfl
    · obtain ⟨k, rfl⟩ : ∃ k, i = k + 1 := ⟨i - 1, by omega⟩
      rw [mul_succ_at, hg (k + 1) (by omega), Int.mul_zero, Int.zero_add]
      exact h2 k (by omega)
theorem Fin.mul {d e : Nat} {f g : Ser} (hf : Fin d f) (hg : Fin e g) : Fin (d + e - 1) (f * g) := by
  cases d with
  | zero =>
    rw [hf.eq_zero]
    intro i _
    exact zero_mul_at g i
  | succ d =>
    cases e with
    | zero =>
      rw [hg.eq_zero, mul_comm']
      intro i _
      exact zero_mul_at f i
    | succ e => exact (Fin.top hf hg).2.mono (by omega)
/-- nought, or its top number -/
theorem Fin.cases {f : Ser} : ∀ {n : Nat}, Fin n f → f = 0 ∨ ∃ d, d < n ∧ f d ≠ 0 ∧ Fin (d + 1) f
  | 0, h => .inl h.eq_zero
  | n + 1, h => by
    by_cases hn : f n = 0
    · have h' : Fin n f := fun i hi => by
        by_cases e : i = n
        · rw [e]; exact hn
        · exact h i (by omega)
      rcases Fin.cases h' with h' | ⟨d, h1, h2, h3⟩
      · exact .inl h'
      · exact .inr ⟨d, by omega, h2, h3⟩
    · exact .inr ⟨n, by omega, hn, h⟩
theorem ne_zero_of_at {f : Ser} {d : Nat} (h : f d ≠ 0) : f ≠ 0 := fun z => h (by rw [z, zero_at])
/-- no divisors of nought -/
theorem mul_eq_zero' {n m : Nat} {f g : Ser} (hf : Fin n f) (hg : Fin m g) (h : f * g = 0) : f = 0 ∨ g = 0 := by
  rcases hf.cases with e | ⟨d, _, h1, h2⟩
  · exact .inl e
  · rcases hg.cases with e | ⟨e, _, h3, h4⟩
    · exact .inr e
    · have t := (Fin.top h2 h4).1
      rw [h, zero_at] at t
      exact absurd t.symm (Int.mul_ne_zero h1 h3)
theorem mul_cancel' {n m k : Nat} {f g h : Ser} (hf : Fin n f) (hg : Fin m g) (hh : Fin k h) (h0 : f ≠ 0) (e : f * g = f * h) : g = h := by
  have e2 : f * (g - h) = 0 := by grind
  rcases mul_eq_zero' hf ((hg.mono (Nat.le_max_left m k)).sub (hh.mono (Nat.le_max_right m k))) e2 with z | z
  · exact absurd z h0
  · grind
/-- a multiple that is shorter is nought -/
theorem mul_short {n L : Nat} {f g : Ser} (hf : Fin n f) (hg : Fin (L + 1) g) (hg0 : g L ≠ 0) (h : Fin L (g * f)) : f = 0 := by
  rcases hf.cases with e | ⟨d, _, h1, h2⟩
  · exact e
  · have t := (Fin.top hg h2).1
    rw [h (L + d) (by omega)] at t
    exact absurd t.symm (Int.mul_ne_zero hg0 h1)
theorem S_ne_zero {xs : List Int} (ht : Tr xs) (hne : xs ≠ []) : S xs ≠ 0 := fun h => hne (S_zero_nil ht h)
theorem S_top {ys : List Int} (ht : Tr ys) (hne : ys ≠ []) : S ys (ys.length - 1) ≠ 0 := by
  have hy : 0 < ys.length := List.length_pos_iff.mpr hne
  have e : S ys (ys.length - 1) = ys.getLast hne := by
    rw [S_at, List.getD_eq_getElem?_getD, List.getElem?_eq_getElem (by omega), List.getLast_eq_getElem]; rfl
  rw [e]; exact tr_last ht hne
theorem Fin.Sl {ys : List Int} (hne : ys ≠ []) : Fin (ys.length - 1 + 1) (Pa.S ys) := (Fin.S ys).mono (by omega)
/-- a series that ends as a row -/
theorem Fin.row {n : Nat} {f : Ser} (h : Fin n f) : ∃ xs, Tr xs ∧ Pa.S xs = f ∧ xs.length ≤ n := by
  refine ⟨trim ((List.range n).map fun i => f i), tr_trim _, ?_, Nat.le_trans (trim_length_le _) (by rw [List.length_map, List.length_range]; exact Nat.le_refl n)⟩
  rw [S_trim]
  refine Ser.ext fun i => ?_
  rw [S_at, getD_map_range]
  split
  · rfl
  · rw [h i (by omega)]
theorem C_ne_zero {a : Int} (h : a ≠ 0) : Ser.C a ≠ 0 := fun z => h (C_inj (by rw [z]; rfl))
theorem C_cancel {a : Int} {f g : Ser} (h : a ≠ 0) (e : Ser.C a * f = Ser.C a * g) : f = g := Ser.ext fun i => by
  have := congrFun e i
  rw [C_mul, C_mul] at this
  exact Int.eq_of_mul_eq_mul_left h this

/-! ### a division that leaves nothing -/
/-- so many times another one -/
def Whole (xs ys q : List Int) : Prop := Tr q ∧ S xs = S ys * S q
theorem Whole.unique {xs ys q q' : List Int} (ht : Tr ys) (hne : ys ≠ []) (h : Whole xs ys q) (h' : Whole xs ys q') : q = q' :=
  S_inj h.1 h'.1 (mul_cancel' (Fin.S ys) (Fin.S q) (Fin.S q') (S_ne_zero ht hne) (by rw [← h.2, ← h'.2]))
theorem Whole.len {xs ys q : List Int} (ht : Tr ys) (hne : ys ≠ []) (h : Whole xs ys q) : q.length ≤ xs.length + 1 - ys.length := by
  by_cases hq : q = []
  · subst hq; exact Nat.zero_le _
  · have h1 := (Fin.top (Fin.Sl hne) (Fin.Sl hq)).1
    rw [← h.2] at h1
    have hy : 0 < ys.length := List.length_pos_iff.mpr hne
    have hq0 : 0 < q.length := List.length_pos_iff.mpr hq
    have h2 : S xs (ys.length - 1 + (q.length - 1)) ≠ 0 := by
      rw [h1]; exact Int.mul_ne_zero (S_top ht hne) (S_top h.1 hq)
    have h3 : ys.length - 1 + (q.length - 1) < xs.length := Nat.lt_of_not_le fun z => h2 (S_out z)
    omega
theorem Dv.whole {xs ys q q' r : List Int} {m : Int} (ht : Tr ys) (hne : ys ≠ []) (h : Dv xs ys m q r) (h' : Whole xs ys q') : m = 1 ∧ r = [] ∧ q = q' := by
  have hy : 0 < ys.length := List.length_pos_iff.mpr hne
  have e1 : S ys * (C m * S q' - S q) = S r := by
    have a1 := h.eq
    have a2 := h'.2
    grind
  have fr : Fin (ys.length - 1) (S ys * (C m * S q' - S q)) := by
    rw [e1]; exact (Fin.S r).mono (by have := h.rl; omega)
  have f1 : Fin (max q'.length q.length) (C m * S q' - S q) := (((Fin.S q').smul m).mono (Nat.le_max_left _ _)).sub ((Fin.S q).mono (Nat.le_max_right _ _))
  have z := mul_short f1 (Fin.Sl hne) (S_top ht hne) fr
  have hr : r = [] := S_zero_nil h.rt (by rw [← e1, z]; grind)
  have hq : S q = C m * S q' := by grind
  have hm : m = 1 := by
    have hd : ((m.natAbs : Nat) : Int) ∣ m := Int.natAbs_dvd.mpr (Int.dvd_refl m)
    have := h.cp m.natAbs hd (fun i => by rw [hq, C_mul]; exact Int.dvd_mul_of_dvd_left hd) (fun i => by rw [hr, S_nil, zero_at]; exact Int.dvd_zero _)
    have := h.m1
    omega
  refine ⟨hm, hr, S_inj h.qt h'.1 ?_⟩
  rw [hq, hm, ← one_eq]; grind
theorem Dv.isWhole {xs ys q : List Int} (h : Dv xs ys 1 q []) : Whole xs ys q := ⟨h.qt, by
  have e := h.eq
  rw [S_nil, ← one_eq] at e
  grind⟩

/-- long division without fractions: what holds behind t steps of n -/
structure QI (xs ys : List Int) (a b n t : Nat) (f r : List Int) : Prop where
  fl : f.length = n
  rl : r.length = xs.length
  eq : S xs = S ys * S f + S r
  rz : ∀ i, n - t + ys.length ≤ i + 1 → S r i = 0
  fz : ∀ i, i < n - t → S f i = 0
  fb : BdL (a + t * (b + 1)) f
  rb : BdL (a + t * (b + 1)) r
theorem QI.start {xs ys : List Int} {a b n : Nat} (hn : n = xs.length + 1 - ys.length) (ha : BdL a xs) : QI xs ys a b n 0 (List.replicate n 0) xs where
  fl := List.length_replicate
  rl := rfl
  eq := by rw [S_zeros]; grind
  rz := fun i hi => S_out (by omega)
  fz := fun i _ => by rw [S_zeros, zero_at]
  fb := fun x hx => by rw [(List.mem_replicate.mp hx).2]; exact Bd.zero
  rb := ha.mono (by omega)
theorem QI.step {xs ys : List Int} {a b n t : Nat} {f r : List Int} {v : Int} (h : QI xs ys a b n t f r) (ht : t < n) (hn : n = xs.length + 1 - ys.length) (hy : 0 < ys.length) (hb : BdL b ys)
    (hlc : S ys (ys.length - 1) ≠ 0) (hv : v * S ys (ys.length - 1) = S r (n - 1 - t + ys.length - 1)) :
    QI xs ys a b n (t + 1) (f.set (n - 1 - t) v) (lp (sbIn v ys (n - 1 - t)) ys.length r) := by
  have htb : Bd (a + t * (b + 1)) (S r (n - 1 - t + ys.length - 1)) := h.rb.at _
  have hvb : Bd (a + t * (b + 1)) v := by
    refine Nat.lt_of_le_of_lt ?_ htb
    rw [← hv, Int.natAbs_mul]
    exact Nat.le_mul_of_pos_right _ (Int.natAbs_pos.mpr hlc)
  rw [sbIn_eq]
  have hpl : n - 1 - t < f.length := by rw [h.fl]; omega
  have hf0 : f.getD (n - 1 - t) 0 = 0 := h.fz _ (by omega)
  have Sf : S (f.set (n - 1 - t) v) = S f + C v * X ^ (n - 1 - t) := by
    have e : v = f.getD (n - 1 - t) 0 + v := by rw [hf0, Int.zero_add]
    conv => lhs; rw [e]
    rw [S_set hpl]
  have rlen : n - 1 - t + ys.length ≤ r.length := by rw [h.rl]; omega
  have Sr : S (lp (tmIn (-v) ys (n - 1 - t)) ys.length r) = S r + C (-v) * X ^ (n - 1 - t) * S ys := by
    rw [S_row _ (Nat.le_refl _) rlen, List.take_length]
  refine ⟨?_, ?_, ?_, ?_, ?_, ?_, ?_⟩
  · rw [List.length_set, h.fl]
  · rw [lp_len (fun i a => tmIn_len _ _ _ _ _), h.rl]
  · rw [Sf, Sr, C_neg]
    have e := h.eq
    grind
  · intro i hi
    rw [Sr, add_at, C_X_at]
    by_cases e : n - t + ys.length ≤ i + 1
    · rw [h.rz i e, if_pos (by omega), S_out (xs := ys) (by omega), Int.mul_zero]; rfl
    · have ei : i = n - 1 - t + ys.length - 1 := by omega
      rw [if_pos (by omega), show i - (n - 1 - t) = ys.length - 1 by omega, ei, Int.neg_mul, hv]
      omega
  · intro i hi
    rw [Sf, add_at, S_one_at, if_neg (by omega), h.fz i (by omega)]; rfl
  · intro x hx
    rcases List.mem_or_eq_of_mem_set hx with hx | rfl
    · exact (show Bd _ _ from h.fb x hx).mono (by rw [Nat.succ_mul]; omega)
    · exact hvb.mono (by rw [Nat.succ_mul]; omega)
  · intro x hx
    obtain ⟨i, hi, rfl⟩ := List.getElem_of_mem hx
    have ex : (lp (tmIn (-v) ys (n - 1 - t)) ys.length r)[i] = S (lp (tmIn (-v) ys (n - 1 - t)) ys.length r) i := by
      rw [S_at, List.getD_eq_getElem?_getD, List.getElem?_eq_getElem hi]; rfl
    rw [ex, Sr, add_at, C_X_at]
    have h1 : Bd (a + t * (b + 1) + b) (S r i) := (show Bd _ _ from h.rb.at i).mono (by omega)
    have h2 : Bd (a + t * (b + 1) + b) (if n - 1 - t ≤ i then -v * S ys (i - (n - 1 - t)) else 0) := by
      split
      · exact (hvb.neg.mul (hb.at _)).mono (by omega)
      · exact Bd.zero
    exact (h1.add h2).mono (by rw [Nat.succ_mul]; omega)
theorem QI.no {xs ys : List Int} {a b n t : Nat} {f r : List Int} (h : QI xs ys a b n t f r) (ht : t < n) (htr : Tr ys) (hne : ys ≠ []) (hd : ¬ S ys (ys.length - 1) ∣ S r (n - 1 - t + ys.length - 1)) : ∀ q, ¬ Whole xs ys q := fun q hq => by
  have hy : 0 < ys.length := List.length_pos_iff.mpr hne
  have e : S ys * (S q - S f) = S r := by
    have a1 := h.eq
    have a2 := hq.2
    grind
  have ff : Fin (max q.length f.length) (S q - S f) := ((Fin.S q).mono (Nat.le_max_left _ _)).sub ((Fin.S f).mono (Nat.le_max_right _ _))
  rcases ff.cases with z | ⟨d, _, h1, h2⟩
  · refine hd ?_
    rw [← e, z]
    have : (S ys * 0 : Ser) = 0 := by grind
    rw [this, zero_at]; exact Int.dvd_zero _
  · have t1 := Fin.top (Fin.Sl hne) h2
    rw [e] at t1
    have hlt : d ≤ n - 1 - t := Nat.le_of_not_lt fun hlt => by
      have z := h.rz (ys.length - 1 + d) (by omega)
      rw [t1.1] at z
      exact Int.mul_ne_zero (S_top htr hne) h1 z
    by_cases hdd : d = n - 1 - t
    · refine hd ?_
      rw [show n - 1 - t + ys.length - 1 = ys.length - 1 + d by omega, t1.1]
      exact Int.dvd_mul_right _ _
    · refine hd ?_
      rw [t1.2 _ (by omega)]; exact Int.dvd_zero _
theorem QI.whole {xs ys : List Int} {a b n : Nat} {f r : List Int} (h : QI xs ys a b n n f r) (hr : trim r = []) : Whole xs ys (trim f) := ⟨tr_trim _, by
  have e : S r = 0 := by rw [← S_trim, hr, S_nil]
  rw [S_trim, h.eq, e]; grind⟩
theorem QI.nowhole {xs ys : List Int} {a b n : Nat} {f r : List Int} (h : QI xs ys a b n n f r) (htr : Tr ys) (hne : ys ≠ []) (hr : trim r ≠ []) : ∀ q, ¬ Whole xs ys q := fun q hq => by
  have hy : 0 < ys.length := List.length_pos_iff.mpr hne
  have e : S ys * (S q - S f) = S r := by
    have a1 := h.eq
    have a2 := hq.2
    grind
  have ff : Fin (max q.length f.length) (S q - S f) := ((Fin.S q).mono (Nat.le_max_left _ _)).sub ((Fin.S f).mono (Nat.le_max_right _ _))
  have z := mul_short ff (Fin.Sl hne) (S_top htr hne) (by rw [e]; exact fun i hi => h.rz i (by omega))
  refine hr (S_zero_nil (tr_trim r) ?_)
  rw [S_trim, ← e, z]; grind
end Pa
namespace Pa
open PySem PySem.Spec PyProof.Rows L2
local macro_rules | `(tactic| walk_at "mem") => `(tactic| first | exact .head _ | (refine .tail _ ?_; walk_at "mem"))
local macro_rules | `(tactic| walk_at "rx") => `(tactic| first
  | with_reducible exact Rx.arg (by assumption) | exact Rx.own (by walk_at "mem") | exact Rx.arg (by assumption))
local macro_rules | `(tactic| walk_at "rl") => `(tactic| first
  | with_reducible exact Rl.x (Rx.arg (by assumption)) | exact Rl.x (Rx.own (by walk_at "mem")) | exact Rl.sq (by assumption) | exact Rl.x (Rx.arg (by assumption)))
local macro_rules | `(tactic| walk_at "rt") => `(tactic| first
  | with_reducible exact Rt.x (Rx.arg (by assumption)) | exact Rt.x (Rx.own (by walk_at "mem")) | exact Rt.x (Rx.arg (by assumption)))
local macro_rules | `(tactic| walk_at "sub") => `(tactic| (repeat (first | exact .slnil | exact .refl _ | apply List.Sublist.cons_cons | apply List.Sublist.cons)))
local macro_rules | `(tactic| walk_at "ok") => `(tactic| first
  | assumption | decide | omega | exact mulL (by omega) (by omega) | exact mulR (by omega) (by omega) | (refine ⟨?_, ?_⟩ <;> omega))
local macro_rules | `(tactic| walk_at "w1") => `(tactic| first
  | ((with_reducible refine' W.var ?h ?_); (case h => rfl))
  | with_reducible refine W.c ?_
  | with_reducible refine W.op ?_
  | with_reducible refine RW.i0 ?_
  | ((with_reducible refine' RW.i1 ?h ?_); (case h => walk_at "ok"))
  | with_reducible refine RW.eqI ?_
  | with_reducible refine RW.neI ?_
  | ((with_reducible refine' RW.eqZ ?h ?h2 ?_); (case h => walk_at "rl"); (case h2 => walk_at "rl"))
  | ((with_reducible refine' RW.neZ ?h ?h2 ?_); (case h => walk_at "rl"); (case h2 => walk_at "rl"))
  | with_reducible refine RW.eqL ?_
  | with_reducible refine RW.neL ?_
  | with_reducible refine RW.inL ?_
  | with_reducible refine RW.notInL ?_
  | with_reducible refine RW.eqS ?_
  | with_reducible refine RW.isNoR ?_
  | with_reducible refine W.m1 ?_
  | (with_reducible refine ⟨⟨_, rfl⟩, ?_⟩)
  | with_reducible refine RW.isNoN ?_
  | with_reducible refine RW.notNoR ?_
  | with_reducible refine RW.notNoN ?_
  | with_reducible refine RW.neS ?_
  | ((with_reducible refine' RW.ixZ ?h ?h2 ?_); (case h => walk_at "rl"); (case h2 => walk_at "ok"))
  | ((with_reducible refine' RW.ixL ?h ?h2 ?_); (case h => walk_at "rl"); (case h2 => rfl))
  | ((with_reducible refine' RW.ixT ?h ?h2 ?_); (case h => walk_at "rt"); (case h2 => rfl))
  | with_reducible refine W.un ?_
  | with_reducible refine RU.int ?_
  | with_reducible refine WA.nil ?_
  | with_reducible refine WA.cons ?_
  | with_reducible refine W.cb ?_
  | with_reducible refine W.call ?_
  | ((with_reducible refine' RC.lenZ ?h ?_); (case h => walk_at "rl"))
  | ((with_reducible refine' RC.len ?h ?_); (case h => walk_at "rl"))
  | ((with_reducible refine' RC.lenT ?h ?_); (case h => walk_at "rt"))
  | ((with_reducible refine' RC.lenX ?h ?_); (case h => walk_at "ok"))
  | ((with_reducible refine' RC.lenS ?h ?_); (case h => walk_at "ok"))
  | with_reducible refine RC.abs ?_
  | with_reducible refine RC.max2 ?_
  | with_reducible refine RC.min2 ?_
  | ((with_reducible refine' RC.listL ?h ?_); (case h => walk_at "rl"))
  | (with_reducible refine W.lst0 ?_)
  | (with_reducible refine W.lst1 ?_)
  | (with_reducible refine W.lst ?_)
  | (with_reducible refine W.tup ?_)
  | (with_reducible refine W.sl ?_)
  | (with_reducible refine WO.no ?_)
  | (with_reducible refine WO.part ?_)
  | ((with_reducible refine' RS.take ?h ?h2 ?_); (case h => walk_at "rl"); (case h2 => walk_at "ok"))
  | ((with_reducible refine' RS.drop ?h ?h2 ?_); (case h => walk_at "rl"); (case h2 => walk_at "ok"))
  | with_reducible refine RC.isiII ?_
  | with_reducible refine RC.isiIB ?_
  | ((with_reducible refine' RC.isiLL ?h ?_); (case h => walk_at "rx"))
  | ((with_reducible refine' RC.isiTT ?h ?_); (case h => walk_at "rx"))
  | with_reducible refine WT.test ?_
  | with_reducible refine WT.b ?_
  | with_reducible refine WT.not ?_
  | with_reducible refine WT.and ?_
  | with_reducible refine WT.or ?_
  | with_reducible refine W.andV ?_
  | with_reducible refine W.orV ?_
  | with_reducible refine W.notV ?_
  | with_reducible refine W.chain ?_
  | with_reducible refine S.seq ?_
  | ((with_reducible refine Un.nx ?_); (with_reducible refine UU.zero ?_))
  | ((with_reducible refine Un.nx ?_); (with_reducible refine UU.succ ?_))
  | with_reducible refine UU.succ ?_
  | with_reducible refine UU.zero ?_
  | with_reducible refine S.asg ?_
  | with_reducible refine S.dropS ?_
  | with_reducible refine S.ret ?_
  | with_reducible refine S.if_ ?_
  | with_reducible refine S.next ?_
  | (with_reducible refine ⟨_, rfl, ?_⟩)
  | refine And.intro (fun _ => ?_) (fun h => Bool.noConfusion h)
  | refine And.intro (fun h => Bool.noConfusion h) (fun _ => ?_))
local macro_rules | `(tactic| walk_at "v1") => `(tactic| first
  | ((with_reducible refine' W.var ?h ?_); (case h => rfl))
  | with_reducible refine W.c ?_
  | with_reducible refine W.op ?_
  | with_reducible refine RW.i0 ?_
  | ((with_reducible refine' RW.i1 ?h ?_); (case h => walk_at "ok"))
  | with_reducible refine RW.eqI ?_
  | with_reducible refine RW.neI ?_
  | ((with_reducible refine' RW.eqZ ?h ?h2 ?_); (case h => walk_at "rl"); (case h2 => walk_at "rl"))
  | ((with_reducible refine' RW.neZ ?h ?h2 ?_); (case h => walk_at "rl"); (case h2 => walk_at "rl"))
  | with_reducible refine RW.eqL ?_
  | with_reducible refine RW.neL ?_
  | with_reducible refine RW.inL ?_
  | with_reducible refine RW.notInL ?_
  | with_reducible refine RW.eqS ?_
  | with_reducible refine RW.isNoR ?_
  | with_reducible refine W.m1 ?_
  | (with_reducible refine ⟨⟨_, rfl⟩, ?_⟩)
  | with_reducible refine RW.isNoN ?_
  | with_reducible refine RW.notNoR ?_
  | with_reducible refine RW.notNoN ?_
  | with_reducible refine RW.neS ?_
  | ((with_reducible refine' RW.ixZ ?h ?h2 ?_); (case h => walk_at "rl"); (case h2 => walk_at "ok"))
  | ((with_reducible refine' RW.ixL ?h ?h2 ?_); (case h => walk_at "rl"); (case h2 => rfl))
  | ((with_reducible refine' RW.ixT ?h ?h2 ?_); (case h => walk_at "rt"); (case h2 => rfl))
  | with_reducible refine W.un ?_
  | with_reducible refine RU.int ?_
  | with_reducible refine WA.nil ?_
  | with_reducible refine WA.cons ?_
  | with_reducible refine W.cb ?_
  | with_reducible refine W.call ?_
  | ((with_reducible refine' RC.lenZ ?h ?_); (case h => walk_at "rl"))
  | ((with_reducible refine' RC.len ?h ?_); (case h => walk_at "rl"))
  | ((with_reducible refine' RC.lenT ?h ?_); (case h => walk_at "rt"))
  | ((with_reducible refine' RC.lenX ?h ?_); (case h => walk_at "ok"))
  | ((with_reducible refine' RC.lenS ?h ?_); (case h => walk_at "ok"))
  | with_reducible refine RC.abs ?_
  | with_reducible refine RC.max2 ?_
  | with_reducible refine RC.min2 ?_
  | ((with_reducible refine' RC.listL ?h ?_); (case h => walk_at "rl"))
  | (with_reducible refine W.lst0 ?_)
  | (with_reducible refine W.lst1 ?_)
  | (with_reducible refine W.lst ?_)
  | (with_reducible refine W.tup ?_)
  | (with_reducible refine W.sl ?_)
  | (with_reducible refine WO.no ?_)
  | (with_reducible refine WO.part ?_)
  | ((with_reducible refine' RS.take ?h ?h2 ?_); (case h => walk_at "rl"); (case h2 => walk_at "ok"))
  | ((with_reducible refine' RS.drop ?h ?h2 ?_); (case h => walk_at "rl"); (case h2 => walk_at "ok"))
  | with_reducible refine RC.isiII ?_
  | with_reducible refine RC.isiIB ?_
  | ((with_reducible refine' RC.isiLL ?h ?_); (case h => walk_at "rx"))
  | ((with_reducible refine' RC.isiTT ?h ?_); (case h => walk_at "rx"))
  | with_reducible refine WT.test ?_
  | with_reducible refine WT.b ?_
  | with_reducible refine WT.not ?_
  | with_reducible refine WT.and ?_
  | with_reducible refine WT.or ?_
  | with_reducible refine W.andV ?_
  | with_reducible refine W.orV ?_
  | with_reducible refine W.notV ?_
  | with_reducible refine W.chain ?_
  | with_reducible refine S.seq ?_
  | ((with_reducible refine Un.nx ?_); (with_reducible refine UU.zero ?_))
  | ((with_reducible refine Un.nx ?_); (with_reducible refine UU.succ ?_))
  | with_reducible refine UU.succ ?_
  | with_reducible refine UU.zero ?_
  | with_reducible refine S.asg ?_
  | with_reducible refine S.dropS ?_
  | with_reducible refine S.ret ?_
  | with_reducible refine S.next ?_
  | (with_reducible refine ⟨_, rfl, ?_⟩)
  | refine And.intro (fun _ => ?_) (fun h => Bool.noConfusion h)
  | refine And.intro (fun h => Bool.noConfusion h) (fun _ => ?_))
local macro_rules | `(tactic| walk_at "w") => `(tactic| (repeat walk_at "w1"))
local macro_rules | `(tactic| walk_at "w0") => `(tactic| (repeat walk_at "v1"))
local macro_rules | `(tactic| walk_at "if") => `(tactic| (refine And.intro (fun hb => ?_) (fun hb => ?_) <;> (try simp only [decide_eq_true_eq, decide_eq_false_iff_not, Bool.not_eq_true', Bool.not_eq_false', Bool.false_eq_true, Bool.true_eq_false, Bool.not_true, Bool.not_false, eq_self, not_true_eq_false, not_false_eq_true, ne_eq] at hb)))
local macro_rules | `(tactic| walk_at "fin") => `(tactic| first
  | exact NR.sub (by assumption) (by walk_at "sub")
  | exact NR.sub (by first | assumption | (apply_assumption)) (by walk_at "sub"))
local macro_rules | `(tactic| walk_at "d") => `(tactic| (try dsimp only [List.set, wipe, List.map]))
local macro_rules | `(tactic| walk_at "lp") => `(tactic| refine Lp.nx ?_)
local macro_rules | `(tactic| walk_at "app") => `(tactic| ((with_reducible refine S.app ?_); (walk_at "w0"); (first | refine ⟨⟨_, by walk_at "rl"⟩, ?_⟩ | refine ⟨_, rfl, ⟨_, by walk_at "rl"⟩, ?_⟩); (walk_at "w0"); (first | refine ⟨_, 0, rfl, ?_, ?_⟩ | refine ⟨_, 1, rfl, ?_, ?_⟩ | refine ⟨_, 2, rfl, ?_, ?_⟩ | refine ⟨_, 3, rfl, ?_, ?_⟩ | refine ⟨_, 4, rfl, ?_, ?_⟩ | refine ⟨_, 5, rfl, ?_, ?_⟩ | refine ⟨_, 6, rfl, ?_, ?_⟩ | refine ⟨_, 7, rfl, ?_, ?_⟩ | refine ⟨_, 8, rfl, ?_, ?_⟩ | refine ⟨_, 9, rfl, ?_, ?_⟩ | refine ⟨_, 10, rfl, ?_, ?_⟩ | refine ⟨_, 11, rfl, ?_, ?_⟩ | refine ⟨_, 12, rfl, ?_, ?_⟩ | refine ⟨_, 13, rfl, ?_, ?_⟩ | refine ⟨_, 14, rfl, ?_, ?_⟩ | refine ⟨_, 15, rfl, ?_, ?_⟩ | refine ⟨_, 16, rfl, ?_, ?_⟩ | refine ⟨_, 17, rfl, ?_, ?_⟩ | refine ⟨_, 18, rfl, ?_, ?_⟩ | refine ⟨_, 19, rfl, ?_, ?_⟩ | refine ⟨_, 20, rfl, ?_, ?_⟩ | refine ⟨_, 21, rfl, ?_, ?_⟩ | refine ⟨_, 22, rfl, ?_, ?_⟩ | refine ⟨_, 23, rfl, ?_, ?_⟩)))
local macro_rules | `(tactic| walk_at "set1") => `(tactic| first | refine ⟨_, _, _, 0, rfl, rfl, rfl, ?_, ?_⟩ | refine ⟨_, _, _, 1, rfl, rfl, rfl, ?_, ?_⟩ | refine ⟨_, _, _, 2, rfl, rfl, rfl, ?_, ?_⟩ | refine ⟨_, _, _, 3, rfl, rfl, rfl, ?_, ?_⟩ | refine ⟨_, _, _, 4, rfl, rfl, rfl, ?_, ?_⟩ | refine ⟨_, _, _, 5, rfl, rfl, rfl, ?_, ?_⟩ | refine ⟨_, _, _, 6, rfl, rfl, rfl, ?_, ?_⟩ | refine ⟨_, _, _, 7, rfl, rfl, rfl, ?_, ?_⟩ | refine ⟨_, _, _, 8, rfl, rfl, rfl, ?_, ?_⟩ | refine ⟨_, _, _, 9, rfl, rfl, rfl, ?_, ?_⟩ | refine ⟨_, _, _, 10, rfl, rfl, rfl, ?_, ?_⟩ | refine ⟨_, _, _, 11, rfl, rfl, rfl, ?_, ?_⟩ | refine ⟨_, _, _, 12, rfl, rfl, rfl, ?_, ?_⟩ | refine ⟨_, _, _, 13, rfl, rfl, rfl, ?_, ?_⟩ | refine ⟨_, _, _, 14, rfl, rfl, rfl, ?_, ?_⟩ | refine ⟨_, _, _, 15, rfl, rfl, rfl, ?_, ?_⟩ | refine ⟨_, _, _, 16, rfl, rfl, rfl, ?_, ?_⟩ | refine ⟨_, _, _, 17, rfl, rfl, rfl, ?_, ?_⟩ | refine ⟨_, _, _, 18, rfl, rfl, rfl, ?_, ?_⟩ | refine ⟨_, _, _, 19, rfl, rfl, rfl, ?_, ?_⟩ | refine ⟨_, _, _, 20, rfl, rfl, rfl, ?_, ?_⟩ | refine ⟨_, _, _, 21, rfl, rfl, rfl, ?_, ?_⟩ | refine ⟨_, _, _, 22, rfl, rfl, rfl, ?_, ?_⟩ | refine ⟨_, _, _, 23, rfl, rfl, rfl, ?_, ?_⟩)
local macro_rules | `(tactic| walk_at "un") => `(tactic| refine Un.nx ?_)
def topS (i : Nat) : Stmt := PySem.Challenge.pw_polyarith_k11_read.main.body.getD i (.Pass ⟨0, 0, 0, 0⟩)
abbrev s_trimmed : Stmt := topS 10
theorem sc_trimmed : FnScope ["row", "size"] ["row"] (defScope s_trimmed) := ⟨rfl, rfl, rfl, by decide +kernel, rfl, by decide +kernel, by decide +kernel⟩
abbrev s_made : Stmt := topS 11
theorem sc_made : FnScope ["numbers", "number"] ["numbers"] (defScope s_made) := ⟨rfl, rfl, rfl, by decide +kernel, rfl, by decide +kernel, by decide +kernel⟩
abbrev s_number_at : Stmt := topS 12
theorem sc_number_at : FnScope ["row", "place"] ["row", "place"] (defScope s_number_at) := ⟨rfl, rfl, rfl, by decide +kernel, rfl, by decide +kernel, by decide +kernel⟩
abbrev s_minus : Stmt := topS 13
theorem sc_minus : FnScope ["ones", "others", "size", "k"] ["ones", "others"] (defScope s_minus) := ⟨rfl, rfl, rfl, by decide +kernel, rfl, by decide +kernel, by decide +kernel⟩
abbrev s_scaled : Stmt := topS 14
theorem sc_scaled : FnScope ["row", "many", "number"] ["row", "many"] (defScope s_scaled) := ⟨rfl, rfl, rfl, by decide +kernel, rfl, by decide +kernel, by decide +kernel⟩
abbrev s_times : Stmt := topS 15
theorem sc_times : FnScope ["ones", "others", "found", "j", "k"] ["ones", "others"] (defScope s_times) := ⟨rfl, rfl, rfl, by decide +kernel, rfl, by decide +kernel, by decide +kernel⟩
abbrev s_raised : Stmt := topS 16
theorem sc_raised : FnScope ["row", "many", "found", "k"] ["row", "many"] (defScope s_raised) := ⟨rfl, rfl, rfl, by decide +kernel, rfl, by decide +kernel, by decide +kernel⟩
abbrev s_slope : Stmt := topS 17
theorem sc_slope : FnScope ["row", "k"] ["row"] (defScope s_slope) := ⟨rfl, rfl, rfl, by decide +kernel, rfl, by decide +kernel, by decide +kernel⟩
abbrev s_whole_of : Stmt := topS 20
theorem sc_whole_of : FnScope ["figures", "sign"] ["figures"] (defScope s_whole_of) := ⟨rfl, rfl, rfl, by decide +kernel, rfl, by decide +kernel, by decide +kernel⟩
abbrev s_power_of : Stmt := topS 21
theorem sc_power_of : FnScope ["line"] ["line"] (defScope s_power_of) := ⟨rfl, rfl, rfl, by decide +kernel, rfl, by decide +kernel, by decide +kernel⟩
abbrev s_read_term : Stmt := topS 22
theorem sc_read_term : FnScope ["line", "figures", "power", "number"] ["line"] (defScope s_read_term) := ⟨rfl, rfl, rfl, by decide +kernel, rfl, by decide +kernel, by decide +kernel⟩
abbrev s_read : Stmt := topS 23
theorem sc_read : FnScope ["line", "sign", "words", "row", "last", "k", "told"] ["line"] (defScope s_read) := ⟨rfl, rfl, rfl, by decide +kernel, rfl, by decide +kernel, by decide +kernel⟩
abbrev s_greatest : Stmt := topS 25
theorem sc_greatest : FnScope ["one", "other", "rest"] ["one", "other"] (defScope s_greatest) := ⟨rfl, rfl, rfl, by decide +kernel, rfl, by decide +kernel, by decide +kernel⟩
abbrev s_content : Stmt := topS 26
theorem sc_content : FnScope ["row", "found", "number"] ["row"] (defScope s_content) := ⟨rfl, rfl, rfl, by decide +kernel, rfl, by decide +kernel, by decide +kernel⟩
abbrev s_signed_content : Stmt := topS 27
theorem sc_signed_content : FnScope ["row"] ["row"] (defScope s_signed_content) := ⟨rfl, rfl, rfl, by decide +kernel, rfl, by decide +kernel, by decide +kernel⟩
abbrev s_simple : Stmt := topS 28
theorem sc_simple : FnScope ["row", "by", "number"] ["row"] (defScope s_simple) := ⟨rfl, rfl, rfl, by decide +kernel, rfl, by decide +kernel, by decide +kernel⟩
abbrev s_divided : Stmt := topS 30
theorem sc_divided : FnScope ["row", "by", "many", "found", "rest", "step", "place", "top", "more", "k", "number"] ["row", "by"] (defScope s_divided) := ⟨rfl, rfl, rfl, by decide +kernel, rfl, by decide +kernel, by decide +kernel⟩
abbrev s_quotient : Stmt := topS 31
theorem sc_quotient : FnScope ["row", "by", "told"] ["row", "by"] (defScope s_quotient) := ⟨rfl, rfl, rfl, by decide +kernel, rfl, by decide +kernel, by decide +kernel⟩
abbrev s_shared : Stmt := topS 33
theorem sc_shared : FnScope ["row", "ones", "others", "many", "by", "number"] ["row", "ones", "others", "many"] (defScope s_shared) := ⟨rfl, rfl, rfl, by decide +kernel, rfl, by decide +kernel, by decide +kernel⟩
abbrev s_begun : Stmt := topS 34
theorem sc_begun : FnScope ["row", "first", "by", "sign"] ["row", "first"] (defScope s_begun) := ⟨rfl, rfl, rfl, by decide +kernel, rfl, by decide +kernel, by decide +kernel⟩
abbrev s_behind : Stmt := topS 35
theorem sc_behind : FnScope ["here", "there", "told", "rest", "by", "sign", "up", "down", "ones", "others"] ["here", "there"] (defScope s_behind) := ⟨rfl, rfl, rfl, by decide +kernel, rfl, by decide +kernel, by decide +kernel⟩
abbrev s_meet : Stmt := topS 36
theorem sc_meet : FnScope ["ones", "others", "here", "there", "rest", "found"] ["ones", "others"] (defScope s_meet) := ⟨rfl, rfl, rfl, by decide +kernel, rfl, by decide +kernel, by decide +kernel⟩
abbrev s_parts : Stmt := topS 38
theorem sc_parts : FnScope ["row", "found", "whole", "both", "left", "drift", "many"] ["row"] (defScope s_parts) := ⟨rfl, rfl, rfl, by decide +kernel, rfl, by decide +kernel, by decide +kernel⟩
abbrev s__law_whole : Stmt := topS 40
theorem sc__law_whole : FnScope ["_law_found"] ["_law_found"] (defScope s__law_whole) := ⟨rfl, rfl, rfl, by decide +kernel, rfl, by decide +kernel, by decide +kernel⟩
abbrev s__law_cell_at : Stmt := topS 41
theorem sc__law_cell_at : FnScope ["_law_script", "_law_k"] ["_law_script", "_law_k"] (defScope s__law_cell_at) := ⟨rfl, rfl, rfl, by decide +kernel, rfl, by decide +kernel, by decide +kernel⟩
abbrev s__law_trim : Stmt := topS 42
theorem sc__law_trim : FnScope ["_law_row", "_law_size"] ["_law_row"] (defScope s__law_trim) := ⟨rfl, rfl, rfl, by decide +kernel, rfl, by decide +kernel, by decide +kernel⟩
abbrev s__law_same : Stmt := topS 43
theorem sc__law_same : FnScope ["_law_found", "_law_due_here", "_law_k"] ["_law_found", "_law_due_here"] (defScope s__law_same) := ⟨rfl, rfl, rfl, by decide +kernel, rfl, by decide +kernel, by decide +kernel⟩
abbrev s__law_number : Stmt := topS 44
theorem sc__law_number : FnScope ["_law_cell"] ["_law_cell"] (defScope s__law_number) := ⟨rfl, rfl, rfl, by decide +kernel, rfl, by decide +kernel, by decide +kernel⟩
abbrev s__law_drawn : Stmt := topS 45
theorem sc__law_drawn : FnScope ["_law_script", "_law_place", "_law_size", "_law_many", "_law_row", "_law_k"] ["_law_script", "_law_place", "_law_size", "_law_many"] (defScope s__law_drawn) := ⟨rfl, rfl, rfl, by decide +kernel, rfl, by decide +kernel, by decide +kernel⟩
abbrev s__law_written : Stmt := topS 46
theorem sc__law_written : FnScope ["_law_row", "_law_found", "_law_step", "_law_power", "_law_word"] ["_law_row"] (defScope s__law_written) := ⟨rfl, rfl, rfl, by decide +kernel, rfl, by decide +kernel, by decide +kernel⟩
abbrev s__law_figures : Stmt := topS 47
theorem sc__law_figures : FnScope ["_law_word", "_law_most", "_law_sign_here"] ["_law_word", "_law_most"] (defScope s__law_figures) := ⟨rfl, rfl, rfl, by decide +kernel, rfl, by decide +kernel, by decide +kernel⟩
abbrev s__law_term : Stmt := topS 48
theorem sc__law_term : FnScope ["_law_word", "_law_ahead", "_law_rest", "_law_number_here", "_law_power"] ["_law_word"] (defScope s__law_term) := ⟨rfl, rfl, rfl, by decide +kernel, rfl, by decide +kernel, by decide +kernel⟩
abbrev s__law_due : Stmt := topS 49
theorem sc__law_due : FnScope ["_law_line", "_law_row", "_law_sign_here", "_law_words", "_law_k", "_law_told"] ["_law_line"] (defScope s__law_due) := ⟨rfl, rfl, rfl, by decide +kernel, rfl, by decide +kernel, by decide +kernel⟩
abbrev s__law_odd : Stmt := topS 50
theorem sc__law_odd : FnScope ["_law_cell", "_law_some"] ["_law_cell"] (defScope s__law_odd) := ⟨rfl, rfl, rfl, by decide +kernel, rfl, by decide +kernel, by decide +kernel⟩
abbrev s__law_sign : Stmt := topS 51
theorem sc__law_sign : FnScope ["_law_cell", "_law_some"] ["_law_cell"] (defScope s__law_sign) := ⟨rfl, rfl, rfl, by decide +kernel, rfl, by decide +kernel, by decide +kernel⟩
abbrev s__law_turned : Stmt := topS 52
theorem sc__law_turned : FnScope ["_law_line", "_law_cell", "_law_spot", "_law_sign_here", "_law_place"] ["_law_line", "_law_cell", "_law_spot"] (defScope s__law_turned) := ⟨rfl, rfl, rfl, by decide +kernel, rfl, by decide +kernel, by decide +kernel⟩
abbrev s__law_refuse : Stmt := topS 53
theorem sc__law_refuse : FnScope ["_law_which"] ["_law_which"] (defScope s__law_refuse) := ⟨rfl, rfl, rfl, by decide +kernel, rfl, by decide +kernel, by decide +kernel⟩
abbrev s__law_first : Stmt := topS 54
theorem sc__law_first : FnScope ["_law_which"] ["_law_which"] (defScope s__law_first) := ⟨rfl, rfl, rfl, by decide +kernel, rfl, by decide +kernel, by decide +kernel⟩
abbrev s__law_last : Stmt := topS 55
theorem sc__law_last : FnScope ["_law_which"] ["_law_which"] (defScope s__law_last) := ⟨rfl, rfl, rfl, by decide +kernel, rfl, by decide +kernel, by decide +kernel⟩
abbrev s__law_refused : Stmt := topS 56
theorem sc__law_refused : FnScope ["_law_line", "e"] ["_law_line"] (defScope s__law_refused) := ⟨rfl, rfl, rfl, by decide +kernel, rfl, by decide +kernel, by decide +kernel⟩
abbrev s_law : Stmt := topS 57
theorem sc_law : FnScope ["_law_script", "_law_which", "_law_first_here", "_law_second", "_law_many", "_law_line", "_law_due_here", "_law_refused_here", "_law_found"] ["_law_script"] (defScope s_law) := ⟨rfl, rfl, rfl, by decide +kernel, rfl, by decide +kernel, by decide +kernel⟩
structure Txt (K : PySem.W.Frag) (mg : Str → Option Value) where
  a_trimmed : Addr
  d_trimmed : FuncData
  F_trimmed : Fun K "trimmed" "trimmed" s_trimmed a_trimmed d_trimmed
  m_trimmed : mg "trimmed" = some (.ref a_trimmed)
  b_trimmed : Binds K d_trimmed ["row"] []
  a_made : Addr
  d_made : FuncData
  F_made : Fun K "made" "made" s_made a_made d_made
  m_made : mg "made" = some (.ref a_made)
  b_made : Binds K d_made ["numbers"] []
  a_number_at : Addr
  d_number_at : FuncData
  F_number_at : Fun K "number_at" "number_at" s_number_at a_number_at d_number_at
  m_number_at : mg "number_at" = some (.ref a_number_at)
  b_number_at : Binds K d_number_at ["row", "place"] []
  a_minus : Addr
  d_minus : FuncData
  F_minus : Fun K "minus" "minus" s_minus a_minus d_minus
  m_minus : mg "minus" = some (.ref a_minus)
  b_minus : Binds K d_minus ["ones", "others"] []
  a_scaled : Addr
  d_scaled : FuncData
  F_scaled : Fun K "scaled" "scaled" s_scaled a_scaled d_scaled
  m_scaled : mg "scaled" = some (.ref a_scaled)
  b_scaled : Binds K d_scaled ["row", "many"] []
  a_times : Addr
  d_times : FuncData
  F_times : Fun K "times" "times" s_times a_times d_times
  m_times : mg "times" = some (.ref a_times)
  b_times : Binds K d_times ["ones", "others"] []
  a_raised : Addr
  d_raised : FuncData
  F_raised : Fun K "raised" "raised" s_raised a_raised d_raised
  m_raised : mg "raised" = some (.ref a_raised)
  b_raised : Binds K d_raised ["row", "many"] []
  a_slope : Addr
  d_slope : FuncData
  F_slope : Fun K "slope" "slope" s_slope a_slope d_slope
  m_slope : mg "slope" = some (.ref a_slope)
  b_slope : Binds K d_slope ["row"] []
  a_whole_of : Addr
  d_whole_of : FuncData
  F_whole_of : Fun K "whole_of" "whole_of" s_whole_of a_whole_of d_whole_of
  m_whole_of : mg "whole_of" = some (.ref a_whole_of)
  b_whole_of : Binds K d_whole_of ["figures"] []
  a_power_of : Addr
  d_power_of : FuncData
  F_power_of : Fun K "power_of" "power_of" s_power_of a_power_of d_power_of
  m_power_of : mg "power_of" = some (.ref a_power_of)
  b_power_of : Binds K d_power_of ["line"] []
  a_read_term : Addr
  d_read_term : FuncData
  F_read_term : Fun K "read_term" "read_term" s_read_term a_read_term d_read_term
  m_read_term : mg "read_term" = some (.ref a_read_term)
  b_read_term : Binds K d_read_term ["line"] []
  a_read : Addr
  d_read : FuncData
  F_read : Fun K "read" "read" s_read a_read d_read
  m_read : mg "read" = some (.ref a_read)
  b_read : Binds K d_read ["line"] []
  a_greatest : Addr
  d_greatest : FuncData
  F_greatest : Fun K "greatest" "greatest" s_greatest a_greatest d_greatest
  m_greatest : mg "greatest" = some (.ref a_greatest)
  b_greatest : Binds K d_greatest ["one", "other"] []
  a_content : Addr
  d_content : FuncData
  F_content : Fun K "content" "content" s_content a_content d_content
  m_content : mg "content" = some (.ref a_content)
  b_content : Binds K d_content ["row"] []
  a_signed_content : Addr
  d_signed_content : FuncData
  F_signed_content : Fun K "signed_content" "signed_content" s_signed_content a_signed_content d_signed_content
  m_signed_content : mg "signed_content" = some (.ref a_signed_content)
  b_signed_content : Binds K d_signed_content ["row"] []
  a_simple : Addr
  d_simple : FuncData
  F_simple : Fun K "simple" "simple" s_simple a_simple d_simple
  m_simple : mg "simple" = some (.ref a_simple)
  b_simple : Binds K d_simple ["row"] []
  a_divided : Addr
  d_divided : FuncData
  F_divided : Fun K "divided" "divided" s_divided a_divided d_divided
  m_divided : mg "divided" = some (.ref a_divided)
  b_divided : Binds K d_divided ["row", "by"] []
  a_quotient : Addr
  d_quotient : FuncData
  F_quotient : Fun K "quotient" "quotient" s_quotient a_quotient d_quotient
  m_quotient : mg "quotient" = some (.ref a_quotient)
  b_quotient : Binds K d_quotient ["row", "by"] []
  a_shared : Addr
  d_shared : FuncData
  F_shared : Fun K "shared" "shared" s_shared a_shared d_shared
  m_shared : mg "shared" = some (.ref a_shared)
  b_shared : Binds K d_shared ["row", "ones", "others", "many"] []
  a_begun : Addr
  d_begun : FuncData
  F_begun : Fun K "begun" "begun" s_begun a_begun d_begun
  m_begun : mg "begun" = some (.ref a_begun)
  b_begun : Binds K d_begun ["row", "first"] []
  a_behind : Addr
  d_behind : FuncData
  F_behind : Fun K "behind" "behind" s_behind a_behind d_behind
  m_behind : mg "behind" = some (.ref a_behind)
  b_behind : Binds K d_behind ["here", "there"] []
  a_meet : Addr
  d_meet : FuncData
  F_meet : Fun K "meet" "meet" s_meet a_meet d_meet
  m_meet : mg "meet" = some (.ref a_meet)
  b_meet : Binds K d_meet ["ones", "others"] []
  a_parts : Addr
  d_parts : FuncData
  F_parts : Fun K "parts" "parts" s_parts a_parts d_parts
  m_parts : mg "parts" = some (.ref a_parts)
  b_parts : Binds K d_parts ["row"] []
  a__law_whole : Addr
  d__law_whole : FuncData
  F__law_whole : Fun K "_law_whole" "_law_whole" s__law_whole a__law_whole d__law_whole
  m__law_whole : mg "_law_whole" = some (.ref a__law_whole)
  b__law_whole : Binds K d__law_whole ["_law_found"] []
  a__law_cell_at : Addr
  d__law_cell_at : FuncData
  F__law_cell_at : Fun K "_law_cell_at" "_law_cell_at" s__law_cell_at a__law_cell_at d__law_cell_at
  m__law_cell_at : mg "_law_cell_at" = some (.ref a__law_cell_at)
  b__law_cell_at : Binds K d__law_cell_at ["_law_script", "_law_k"] []
  a__law_trim : Addr
  d__law_trim : FuncData
  F__law_trim : Fun K "_law_trim" "_law_trim" s__law_trim a__law_trim d__law_trim
  m__law_trim : mg "_law_trim" = some (.ref a__law_trim)
  b__law_trim : Binds K d__law_trim ["_law_row"] []
  a__law_same : Addr
  d__law_same : FuncData
  F__law_same : Fun K "_law_same" "_law_same" s__law_same a__law_same d__law_same
  m__law_same : mg "_law_same" = some (.ref a__law_same)
  b__law_same : Binds K d__law_same ["_law_found", "_law_due_here"] []
  a__law_number : Addr
  d__law_number : FuncData
  F__law_number : Fun K "_law_number" "_law_number" s__law_number a__law_number d__law_number
  m__law_number : mg "_law_number" = some (.ref a__law_number)
  b__law_number : Binds K d__law_number ["_law_cell"] []
  a__law_drawn : Addr
  d__law_drawn : FuncData
  F__law_drawn : Fun K "_law_drawn" "_law_drawn" s__law_drawn a__law_drawn d__law_drawn
  m__law_drawn : mg "_law_drawn" = some (.ref a__law_drawn)
  b__law_drawn : Binds K d__law_drawn ["_law_script", "_law_place", "_law_size", "_law_many"] []
  a__law_written : Addr
  d__law_written : FuncData
  F__law_written : Fun K "_law_written" "_law_written" s__law_written a__law_written d__law_written
  m__law_written : mg "_law_written" = some (.ref a__law_written)
  b__law_written : Binds K d__law_written ["_law_row"] []
  a__law_figures : Addr
  d__law_figures : FuncData
  F__law_figures : Fun K "_law_figures" "_law_figures" s__law_figures a__law_figures d__law_figures
  m__law_figures : mg "_law_figures" = some (.ref a__law_figures)
  b__law_figures : Binds K d__law_figures ["_law_word", "_law_most"] []
  a__law_term : Addr
  d__law_term : FuncData
  F__law_term : Fun K "_law_term" "_law_term" s__law_term a__law_term d__law_term
  m__law_term : mg "_law_term" = some (.ref a__law_term)
  b__law_term : Binds K d__law_term ["_law_word"] []
  a__law_due : Addr
  d__law_due : FuncData
  F__law_due : Fun K "_law_due" "_law_due" s__law_due a__law_due d__law_due
  m__law_due : mg "_law_due" = some (.ref a__law_due)
  b__law_due : Binds K d__law_due ["_law_line"] []
  a__law_odd : Addr
  d__law_odd : FuncData
  F__law_odd : Fun K "_law_odd" "_law_odd" s__law_odd a__law_odd d__law_odd
  m__law_odd : mg "_law_odd" = some (.ref a__law_odd)
  b__law_odd : Binds K d__law_odd ["_law_cell"] []
  a__law_sign : Addr
  d__law_sign : FuncData
  F__law_sign : Fun K "_law_sign" "_law_sign" s__law_sign a__law_sign d__law_sign
  m__law_sign : mg "_law_sign" = some (.ref a__law_sign)
  b__law_sign : Binds K d__law_sign ["_law_cell"] []
  a__law_turned : Addr
  d__law_turned : FuncData
  F__law_turned : Fun K "_law_turned" "_law_turned" s__law_turned a__law_turned d__law_turned
  m__law_turned : mg "_law_turned" = some (.ref a__law_turned)
  b__law_turned : Binds K d__law_turned ["_law_line", "_law_cell", "_law_spot"] []
  a__law_refuse : Addr
  d__law_refuse : FuncData
  F__law_refuse : Fun K "_law_refuse" "_law_refuse" s__law_refuse a__law_refuse d__law_refuse
  m__law_refuse : mg "_law_refuse" = some (.ref a__law_refuse)
  b__law_refuse : Binds K d__law_refuse ["_law_which"] []
  a__law_first : Addr
  d__law_first : FuncData
  F__law_first : Fun K "_law_first" "_law_first" s__law_first a__law_first d__law_first
  m__law_first : mg "_law_first" = some (.ref a__law_first)
  b__law_first : Binds K d__law_first ["_law_which"] []
  a__law_last : Addr
  d__law_last : FuncData
  F__law_last : Fun K "_law_last" "_law_last" s__law_last a__law_last d__law_last
  m__law_last : mg "_law_last" = some (.ref a__law_last)
  b__law_last : Binds K d__law_last ["_law_which"] []
  a__law_refused : Addr
  d__law_refused : FuncData
  F__law_refused : Fun K "_law_refused" "_law_refused" s__law_refused a__law_refused d__law_refused
  m__law_refused : mg "_law_refused" = some (.ref a__law_refused)
  b__law_refused : Binds K d__law_refused ["_law_line"] []
  a_law : Addr
  d_law : FuncData
  F_law : Fun K "law" "law" s_law a_law d_law
  m_law : mg "law" = some (.ref a_law)
  b_law : Binds K d_law ["_law_script"] []
  A_PolyError : Addr
  e_PolyError : Err K mg "PolyError" A_PolyError
  A_NoNumber : Addr
  e_NoNumber : Err K mg "NoNumber" A_NoNumber
  A_NoPower : Addr
  e_NoPower : Err K mg "NoPower" A_NoPower
  A_ByNought : Addr
  e_ByNought : Err K mg "ByNought" A_ByNought
  A_NotWhole : Addr
  e_NotWhole : Err K mg "NotWhole" A_NotWhole
  A_NoMeet : Addr
  e_NoMeet : Err K mg "NoMeet" A_NoMeet
  A_NoParts : Addr
  e_NoParts : Err K mg "NoParts" A_NoParts
  A_NotWritten : Addr
  e_NotWritten : Err K mg "NotWritten" A_NotWritten
  u_NoNumber_NoNumber : PySem.W.exmOne K (.ref A_NoNumber) (.ref A_NoNumber) = some true
  u_NoNumber_NoPower : PySem.W.exmOne K (.ref A_NoNumber) (.ref A_NoPower) = some false
  u_NoNumber_ByNought : PySem.W.exmOne K (.ref A_NoNumber) (.ref A_ByNought) = some false
  u_NoNumber_NotWhole : PySem.W.exmOne K (.ref A_NoNumber) (.ref A_NotWhole) = some false
  u_NoNumber_NoMeet : PySem.W.exmOne K (.ref A_NoNumber) (.ref A_NoMeet) = some false
  u_NoNumber_NoParts : PySem.W.exmOne K (.ref A_NoNumber) (.ref A_NoParts) = some false
  u_NoNumber_NotWritten : PySem.W.exmOne K (.ref A_NoNumber) (.ref A_NotWritten) = some false
  u_NoPower_NoNumber : PySem.W.exmOne K (.ref A_NoPower) (.ref A_NoNumber) = some false
  u_NoPower_NoPower : PySem.W.exmOne K (.ref A_NoPower) (.ref A_NoPower) = some true
  u_NoPower_ByNought : PySem.W.exmOne K (.ref A_NoPower) (.ref A_ByNought) = some false
  u_NoPower_NotWhole : PySem.W.exmOne K (.ref A_NoPower) (.ref A_NotWhole) = some false
  u_NoPower_NoMeet : PySem.W.exmOne K (.ref A_NoPower) (.ref A_NoMeet) = some false
  u_NoPower_NoParts : PySem.W.exmOne K (.ref A_NoPower) (.ref A_NoParts) = some false
  u_NoPower_NotWritten : PySem.W.exmOne K (.ref A_NoPower) (.ref A_NotWritten) = some false
  u_ByNought_NoNumber : PySem.W.exmOne K (.ref A_ByNought) (.ref A_NoNumber) = some false
  u_ByNought_NoPower : PySem.W.exmOne K (.ref A_ByNought) (.ref A_NoPower) = some false
  u_ByNought_ByNought : PySem.W.exmOne K (.ref A_ByNought) (.ref A_ByNought) = some true
  u_ByNought_NotWhole : PySem.W.exmOne K (.ref A_ByNought) (.ref A_NotWhole) = some false
  u_ByNought_NoMeet : PySem.W.exmOne K (.ref A_ByNought) (.ref A_NoMeet) = some false
  u_ByNought_NoParts : PySem.W.exmOne K (.ref A_ByNought) (.ref A_NoParts) = some false
  u_ByNought_NotWritten : PySem.W.exmOne K (.ref A_ByNought) (.ref A_NotWritten) = some false
  u_NotWhole_NoNumber : PySem.W.exmOne K (.ref A_NotWhole) (.ref A_NoNumber) = some false
  u_NotWhole_NoPower : PySem.W.exmOne K (.ref A_NotWhole) (.ref A_NoPower) = some false
  u_NotWhole_ByNought : PySem.W.exmOne K (.ref A_NotWhole) (.ref A_ByNought) = some false
  u_NotWhole_NotWhole : PySem.W.exmOne K (.ref A_NotWhole) (.ref A_NotWhole) = some true
  u_NotWhole_NoMeet : PySem.W.exmOne K (.ref A_NotWhole) (.ref A_NoMeet) = some false
  u_NotWhole_NoParts : PySem.W.exmOne K (.ref A_NotWhole) (.ref A_NoParts) = some false
  u_NotWhole_NotWritten : PySem.W.exmOne K (.ref A_NotWhole) (.ref A_NotWritten) = some false
  u_NoMeet_NoNumber : PySem.W.exmOne K (.ref A_NoMeet) (.ref A_NoNumber) = some false
  u_NoMeet_NoPower : PySem.W.exmOne K (.ref A_NoMeet) (.ref A_NoPower) = some false
  u_NoMeet_ByNought : PySem.W.exmOne K (.ref A_NoMeet) (.ref A_ByNought) = some false
  u_NoMeet_NotWhole : PySem.W.exmOne K (.ref A_NoMeet) (.ref A_NotWhole) = some false
  u_NoMeet_NoMeet : PySem.W.exmOne K (.ref A_NoMeet) (.ref A_NoMeet) = some true
  u_NoMeet_NoParts : PySem.W.exmOne K (.ref A_NoMeet) (.ref A_NoParts) = some false
  u_NoMeet_NotWritten : PySem.W.exmOne K (.ref A_NoMeet) (.ref A_NotWritten) = some false
  u_NoParts_NoNumber : PySem.W.exmOne K (.ref A_NoParts) (.ref A_NoNumber) = some false
  u_NoParts_NoPower : PySem.W.exmOne K (.ref A_NoParts) (.ref A_NoPower) = some false
  u_NoParts_ByNought : PySem.W.exmOne K (.ref A_NoParts) (.ref A_ByNought) = some false
  u_NoParts_NotWhole : PySem.W.exmOne K (.ref A_NoParts) (.ref A_NotWhole) = some false
  u_NoParts_NoMeet : PySem.W.exmOne K (.ref A_NoParts) (.ref A_NoMeet) = some false
  u_NoParts_NoParts : PySem.W.exmOne K (.ref A_NoParts) (.ref A_NoParts) = some true
  u_NoParts_NotWritten : PySem.W.exmOne K (.ref A_NoParts) (.ref A_NotWritten) = some false
  u_NotWritten_NoNumber : PySem.W.exmOne K (.ref A_NotWritten) (.ref A_NoNumber) = some false
  u_NotWritten_NoPower : PySem.W.exmOne K (.ref A_NotWritten) (.ref A_NoPower) = some false
  u_NotWritten_ByNought : PySem.W.exmOne K (.ref A_NotWritten) (.ref A_ByNought) = some false
  u_NotWritten_NotWhole : PySem.W.exmOne K (.ref A_NotWritten) (.ref A_NotWhole) = some false
  u_NotWritten_NoMeet : PySem.W.exmOne K (.ref A_NotWritten) (.ref A_NoMeet) = some false
  u_NotWritten_NoParts : PySem.W.exmOne K (.ref A_NotWritten) (.ref A_NoParts) = some false
  u_NotWritten_NotWritten : PySem.W.exmOne K (.ref A_NotWritten) (.ref A_NotWritten) = some true
  u_NotWritten_PolyError : PySem.W.exmOne K (.ref A_NotWritten) (.ref A_PolyError) = some true
  g_FIGURES : ∃ t, mg "FIGURES" = some (.str "0123456789" t)
  z_ValueError : mg "ValueError" = none
  z_abs : mg "abs" = none
  z_bool : mg "bool" = none
  z_int : mg "int" = none
  z_isinstance : mg "isinstance" = none
  z_len : mg "len" = none
  z_list : mg "list" = none
  z_max : mg "max" = none
  z_range : mg "range" = none
  z_str : mg "str" = none

section
variable {P : Program} {w : World} {K : PySem.W.Frag} {mg : Str → Option Value} {base : Heap}
def sp_trimmed : Sp := fun vs H Q _ => ∃ (a : Addr) (xs : List Int), vs = [.ref a] ∧ H a = some (.lst (zV xs)) ∧ xs.length ≤ 100000 ∧ ∀ p, NR Q (.ref p) H [(p, .lst (zV (trim xs)))]
theorem WC_trimmed {H0 : Hp} {fs : Fs} {Φ : CV} {a : Addr} {xs : List Int} (h : Rx H0 fs a (.lst (zV xs))) (hl : xs.length ≤ 100000) (q : ∀ p, Φ (.ref p) ((p, .lst (zV (trim xs))) :: fs)) : WC sp_trimmed [.ref a] H0 fs Φ :=
  fun H k Q E c => ⟨a, xs, rfl, h H k, hl, fun p H' k' => c _ _ _ (k.app k') (q p)⟩
theorem ok_trimmed (T : Txt K mg) : FnOk P w K mg base CX0 1 T.a_trimmed T.d_trimmed ["row"] sp_trimmed := by
  refine T.F_trimmed.ok sc_trimmed (fun vs H Q E h => ?_) (fun cdv A outer s H vs Q E hr h => ?_)
  · obtain ⟨a, xs, rfl, _⟩ := h; rfl
  · obtain ⟨a, xs, rfl, hA, hl, q⟩ := h
    refine ⟨_, (pss_cons (ps_set (i := 1) sc_trimmed.nd rfl (Or.inl rfl) (pe_callB cLen (by rfl) T.z_len PySem.boot_len (pa_cons (pv 0) pa_nil)))
      (pss_cons (ps_while PassesOwn.never (PW.pt (pw_and (pt_cmpR op_gt (pv 1) pe_int (nomark _)) (pw_and1 (pt_cmpR op_eq (pe_ix ix_list (pv 0) (pe_op op_sub (pv 1) pe_int) (fun _ _ => rfl)) pe_int (nomark _))))) (pss_one (ps_set (i := 1) sc_trimmed.nd rfl (Or.inl rfl) (pe_op op_sub (pv 1) pe_int))))
      (pss_one (ps_ret (pe_slice sl_list (pv 0) po_none (po_some (pv 1))))))), ?_⟩
    refine N.go (σ := [some (.ref a), none]) ?_
    walk_at "w"
    refine S.while_ (fun m σ f => σ = [some (.ref a), some (.int (m : Int))] ∧ f = [] ∧ m ≤ xs.length ∧ trim xs = trim (xs.take m)) xs.length ⟨rfl, rfl, Nat.le_refl _, by rw [List.take_length]⟩ ?_
    rintro m σ f ⟨rfl, rfl, hm, ht⟩
    walk_at "w"
    walk_at "if"
    · walk_at "w"
      walk_at "if"
      · -- one nought less
        walk_at "w"
        rename_i h1 h2
        have em : ((m : Int) - 1) = ((m - 1 : Nat) : Int) := by omega
        rw [em]
        refine Wl.nx (m' := m - 1) (by omega) ⟨rfl, rfl, by omega, ?_⟩
        rw [ht]
        have e2 : m = (m - 1) + 1 := by omega
        rw [em, gat_nat] at h2
        rw [e2, take_succ_getD (by omega : m - 1 < xs.length), h2, trim_zero]
        rfl
      · walk_at "w"
        rename_i h1 h2
        intro l
        have em : ((m : Int) - 1) = ((m - 1 : Nat) : Int) := by omega
        have e2 : m = (m - 1) + 1 := by omega
        rw [em, gat_nat] at h2
        have e3 : trim xs = xs.take m := by
          rw [ht, e2, take_succ_getD (by omega : m - 1 < xs.length), trim_last _ h2]
        rw [e3] at q
        have e4 : ((m : Int)).toNat = m := by simp
        rw [e4]
        exact NR.sub (q l) (by walk_at "sub")
    · walk_at "w"
      rename_i h1
      intro l
      have e0 : m = 0 := by omega
      subst e0
      have e3 : trim xs = [] := by rw [ht]; rfl
      rw [e3] at q
      exact NR.sub (q l) (by walk_at "sub")

end

section
variable {P : Program} {w : World} {K : PySem.W.Frag} {mg : Str → Option Value} {base : Heap}
/-- a thing among them that is no whole number -/
def sp_madeX (K : PySem.W.Frag) (C : Addr) : Sp := fun vs H Q E => ∃ (a : Addr) (xs ys : List Int) (v : V), vs = [.ref a] ∧ (SqL K H a (zV xs ++ v :: zV ys) ∨ SqT K H a (zV xs ++ v :: zV ys)) ∧ OddH H v ∧ NE E (.ref C) none H []
theorem WCL_madeX {K : PySem.W.Frag} {C : Addr} {H0 : Hp} {fs : Fs} {Ψ : Value → Option Addr → Fs → Prop} {a : Addr} {xs ys : List Int} {v : V} (h : Rl K H0 fs a (zV xs ++ v :: zV ys)) (ho : ∀ H, OddH H v) (q : Ψ (.ref C) none fs) : WCX (sp_madeX K C) [.ref a] H0 fs Ψ :=
  fun H k Q E c => ⟨a, xs, ys, v, rfl, .inl (h H k), ho H, fun H' k' => c _ _ _ _ (k.app k') q⟩
theorem okX_made (T : Txt K mg) : FnOk P w K mg base (L2.CX P w) 2 T.a_made T.d_made ["numbers"] (sp_madeX K T.A_NoNumber) := by
  refine T.F_made.okX sc_made (fun vs H Q E h => ?_) (fun cdv A outer s H vs Q E hr h => ?_)
  · obtain ⟨a, xs, ys, v, rfl, _⟩ := h; rfl
  · obtain ⟨a, xs, ys, v, rfl, hA, hodd, q⟩ := h
    refine ⟨_, (pss_cons (ps_for passesX rfl (pi_seq (pv 0)) (pg_name (i := 1) sc_made.nd rfl (Or.inl rfl)) (pss_one (ps_if (PW.pt (pw_or (pt_val (pe_callB call_isi (by rfl) T.z_isinstance (by decide +kernel) (pa_cons (pv 1) (pa_cons (pe_bltn (v := .ty "bool") (by rfl) T.z_bool (by decide +kernel) rfl) pa_nil)))) (pw_or1 (pt_not (pt_val (pe_callB call_isi (by rfl) T.z_isinstance (by decide +kernel) (pa_cons (pv 1) (pa_cons (pe_bltn (v := .ty "int") (by rfl) T.z_int (by decide +kernel) rfl) pa_nil)))))))) (pss_one (ps_raise rfl (takes_of rfl rfl rfl rfl) (pmk_own PySem.F.excBase_ValueError T.e_NoNumber.x T.e_NoNumber.g T.e_NoNumber.k (raises_own T.e_NoNumber.b T.e_NoNumber.t) (by rfl)))) pss_nil)))
      pss_never), ?_⟩
    refine N.go (σ := [some (.ref a), none]) ?_
    walk_at "w"
    refine S.forQ (K := K) (a := a) (xs := zV xs ++ v :: zV ys) hA (fun i σ f => (∃ y, σ = [some (.ref a), y]) ∧ f = [] ∧ i ≤ xs.length) (fun Φ h => W.var rfl h) ⟨⟨none, rfl⟩, rfl, Nat.zero_le _⟩ ?_ ?_
    · rintro i x σ f hx ⟨⟨y, rfl⟩, rfl, hi⟩
      refine N.of ?_
      by_cases hlt : i < xs.length
      · rw [List.getElem?_append_left (by rw [zV_length]; exact hlt)] at hx
        obtain ⟨z, rfl⟩ : ∃ z, x = .int z := by
          obtain ⟨z, _, e⟩ := List.mem_map.mp (List.mem_of_getElem? hx)
          exact ⟨z, e.symm⟩
        walk_at "d"
        walk_at "w"
        walk_at "lp"
        exact ⟨⟨_, rfl⟩, rfl, hlt⟩
      · have e : i = xs.length := by omega
        subst e
        have ex : x = v := by
          rw [List.getElem?_append_right (by rw [zV_length]; exact Nat.le_refl _), zV_length, Nat.sub_self] at hx
          exact (Option.some.inj hx).symm
        subst ex
        walk_at "d"
        rcases hodd with ⟨b, rfl⟩ | rfl | ⟨z, rfl⟩ | ⟨p, l, rfl, hp⟩ | ⟨p, l, rfl, hp⟩
        · walk_at "w"
          refine RC.isiBB ?_
          walk_at "w"
          exact fun H' k => q H' k
        · walk_at "w"
          refine RC.isiNB ?_
          walk_at "w"
          refine RC.isiNI ?_
          walk_at "w"
          exact fun H' k => q H' k
        · walk_at "w"
          refine RC.isiSB ?_
          walk_at "w"
          refine RC.isiSI ?_
          walk_at "w"
          exact fun H' k => q H' k
        · walk_at "w"
          refine RC.isiLB (Rx.arg hp) ?_
          walk_at "w"
          refine RC.isiLI (Rx.arg hp) ?_
          walk_at "w"
          exact fun H' k => q H' k
        · walk_at "w"
          refine RC.isiTB (Rx.arg hp) ?_
          walk_at "w"
          refine RC.isiTI (Rx.arg hp) ?_
          walk_at "w"
          exact fun H' k => q H' k
    · rintro σ f ⟨_, _, hi⟩
      rw [List.length_append, zV_length] at hi
      simp at hi
      omega

end

section
variable {P : Program} {w : World} {K : PySem.W.Frag} {mg : Str → Option Value} {base : Heap}
/-- a count below nought -/
def sp_raisedX (C : Addr) : Sp := fun vs H Q E => ∃ (v : V) (m : Int), vs = [v, .int m] ∧ m < 0 ∧ NE E (.ref C) none H []
theorem WC_raisedX {C : Addr} {H0 : Hp} {fs : Fs} {Ψ : Value → Option Addr → Fs → Prop} {v : V} {m : Int} (hm : m < 0) (q : Ψ (.ref C) none fs) : WCX (sp_raisedX C) [v, .int m] H0 fs Ψ :=
  fun H k Q E c => ⟨v, m, rfl, hm, fun H' k' => c _ _ _ _ (k.app k') q⟩
theorem okX_raised (T : Txt K mg) : FnOk P w K mg base (L2.CX P w) 3 T.a_raised T.d_raised ["row", "many"] (sp_raisedX T.A_NoPower) := by
  refine T.F_raised.okX sc_raised (fun vs H Q E h => ?_) (fun cdv A outer s H vs Q E hr h => ?_)
  · obtain ⟨v, m, rfl, _⟩ := h; rfl
  · obtain ⟨v, m, rfl, hm, q⟩ := h
    refine ⟨_, (pss_cons (ps_if (pt_cmpR op_lt (pv 1) pe_int (nomark _)) (pss_one (ps_raise rfl (takes_of rfl rfl rfl rfl) (pmk_own PySem.F.excBase_ValueError T.e_NoPower.x T.e_NoPower.g T.e_NoPower.k (raises_own T.e_NoPower.b T.e_NoPower.t) (by rfl)))) pss_nil)
      pss_never), ?_⟩
    refine N.go (σ := [some v, some (.int m), none, none]) ?_
    walk_at "w"
    refine ⟨fun _ => ?_, fun hh => absurd hm (of_decide_eq_false hh)⟩
    exact fun H' k => q H' k

end

section
variable {P : Program} {w : World} {K : PySem.W.Frag} {mg : Str → Option Value} {base : Heap}
def sp_greatest : Sp := fun vs H Q _ => ∃ (i j : Int), vs = [.int i, .int j] ∧ NR Q (.int (Nat.gcd i.natAbs j.natAbs : Nat)) H []
theorem WC_greatest {H0 : Hp} {fs : Fs} {Φ : CV} {i j : Int} (q : Φ (.int (Nat.gcd i.natAbs j.natAbs : Nat)) fs) : WC sp_greatest [.int i, .int j] H0 fs Φ :=
  fun H k Q E c => ⟨i, j, rfl, fun H' k' => c _ _ _ (k.app k') q⟩
theorem ok_greatest (T : Txt K mg) : FnOk P w K mg base CX0 1 T.a_greatest T.d_greatest ["one", "other"] sp_greatest := by
  refine T.F_greatest.ok sc_greatest (fun vs H Q E h => ?_) (fun cdv A outer s H vs Q E hr h => ?_)
  · obtain ⟨i, j, rfl, _⟩ := h; rfl
  · obtain ⟨i, j, rfl, q⟩ := h
    refine ⟨_, (pss_cons (ps_set (i := 0) sc_greatest.nd rfl (Or.inl rfl) (pe_callB cAbs (by rfl) T.z_abs (by decide +kernel) (pa_cons (pv 0) pa_nil)))
      (pss_cons (ps_set (i := 1) sc_greatest.nd rfl (Or.inl rfl) (pe_callB cAbs (by rfl) T.z_abs (by decide +kernel) (pa_cons (pv 1) pa_nil)))
      (pss_cons (ps_while PassesOwn.never (pt_cmpR op_gt (pv 1) pe_int (nomark _)) (pss_cons (ps_set (i := 2) sc_greatest.nd rfl (Or.inl rfl) (pe_op op_mod (pv 0) (pv 1)))
      (pss_cons (ps_set (i := 0) sc_greatest.nd rfl (Or.inl rfl) (pv 1))
      (pss_one (ps_set (i := 1) sc_greatest.nd rfl (Or.inl rfl) (pv 2))))))
      (pss_one (ps_ret (pv 0)))))), ?_⟩
    refine N.go (σ := [some (.int i), some (.int j), none]) ?_
    walk_at "w"
    walk_at "d"
    walk_at "w"
    walk_at "d"
    walk_at "w"
    refine S.while_ (fun m σ f => ∃ x z, σ = [some (.int ((x : Nat) : Int)), some (.int (m : Int)), z] ∧ f = [] ∧ Nat.gcd x m = Nat.gcd i.natAbs j.natAbs) j.natAbs ⟨i.natAbs, none, rfl, rfl, rfl⟩ ?_
    rintro m σ f ⟨x, z, rfl, rfl, hg⟩
    walk_at "w"
    walk_at "if"
    · rename_i hp
      have hm : 0 < m := by omega
      walk_at "w"
      walk_at "d"
      walk_at "w"
      walk_at "d"
      walk_at "w"
      walk_at "d"
      have e : ((x : Int) % (m : Int)) = ((x % m : Nat) : Int) := (Int.natCast_emod x m).symm
      rw [e]
      refine Wl.nx (m' := x % m) (Nat.mod_lt _ hm) ⟨m, _, rfl, rfl, ?_⟩
      rw [← hg, Nat.gcd_comm x m, Nat.gcd_rec m x, Nat.gcd_comm]
    · rename_i hp
      have hm : m = 0 := by omega
      subst hm
      rw [Nat.gcd_zero_right] at hg
      walk_at "w"
      rw [hg]
      exact NR.sub q (by walk_at "sub")

end

section
variable {P : Program} {w : World} {K : PySem.W.Frag} {mg : Str → Option Value} {base : Heap}
def sp_divided : Sp := fun vs H Q _ => ∃ (a b : Addr) (xs ys : List Int) (A B : Nat), vs = [.ref a, .ref b] ∧ H a = some (.lst (zV xs)) ∧ H b = some (.lst (zV ys)) ∧ (xs.length ≤ 40000 ∧ ys.length ≤ 40000) ∧ Tr ys ∧ ys ≠ [] ∧ BdL A xs ∧ BdL B ys ∧ (B ≤ 9000) ∧ A + (xs.length + 2 - ys.length) * (B + 1) + B + 1 ≤ 134217728 ∧
  ∀ (m : Int) (q r : List Int), Dv xs ys m q r → Bd ((xs.length + 1 - ys.length) * B + 1) m → BdL (A + (xs.length + 1 - ys.length) * (B + 1)) q → BdL (A + (xs.length + 1 - ys.length) * (B + 1)) r → q.length ≤ xs.length + 1 - ys.length → ∀ p1 p2 p, NR Q (.ref p) H [(p, .tup [.int m, .ref p1, .ref p2]), (p2, .lst (zV r)), (p1, .lst (zV q))]
theorem WC_divided {H0 : Hp} {fs : Fs} {Φ : CV} {a b : Addr} {xs ys : List Int} (A B : Nat) (h : Rx H0 fs a (.lst (zV xs))) (h2 : Rx H0 fs b (.lst (zV ys))) (hl : xs.length ≤ 40000 ∧ ys.length ≤ 40000) (ht : Tr ys) (hne : ys ≠ []) (hA : BdL A xs) (hB : BdL B ys) (hB9 : B ≤ 9000) (hAB : A + (xs.length + 2 - ys.length) * (B + 1) + B + 1 ≤ 134217728)
    (c : ∀ (m : Int) (q r : List Int), Dv xs ys m q r → Bd ((xs.length + 1 - ys.length) * B + 1) m → BdL (A + (xs.length + 1 - ys.length) * (B + 1)) q → BdL (A + (xs.length + 1 - ys.length) * (B + 1)) r → q.length ≤ xs.length + 1 - ys.length → ∀ p1 p2 p, Φ (.ref p) ((p, .tup [.int m, .ref p1, .ref p2]) :: (p2, .lst (zV r)) :: (p1, .lst (zV q)) :: fs)) : WC sp_divided [.ref a, .ref b] H0 fs Φ :=
  fun H k Q E cc => ⟨a, b, xs, ys, A, B, rfl, h H k, h2 H k, hl, ht, hne, hA, hB, hB9, hAB, fun m q r d1 d2 d3 d4 d5 p1 p2 p H' k' => cc _ _ _ (k.app k') (c m q r d1 d2 d3 d4 d5 p1 p2 p)⟩
theorem ok_divided (T : Txt K mg) : FnOk P w K mg base CX0 2 T.a_divided T.d_divided ["row", "by"] sp_divided := by
  refine T.F_divided.ok sc_divided (fun vs H Q E h => ?_) (fun cdv A outer s H vs Q E hr h => ?_)
  · obtain ⟨a, b, xs, ys, A, B, rfl, _⟩ := h; rfl
  · obtain ⟨a, b, xs, ys, A, B, rfl, hXa, hXb, hl, ht, hne, hA, hB, hB9, hAB, c⟩ := h
    refine ⟨_, (pss_cons (ps_if (pt_cmpR (op_eqD hr.units) (pv 1) (pe_lst pa_nil) (nomark _)) (pss_one ps_never) pss_nil)
      (pss_cons (ps_set (i := 2) sc_divided.nd rfl (Or.inl rfl) pe_int)
      (pss_cons (ps_set (i := 3) sc_divided.nd rfl (Or.inl rfl) (pe_op op_rep (pe_lst (pa_cons pe_int pa_nil)) (pe_callB (cMax2 rfl) (by rfl) T.z_max (by decide +kernel) (pa_cons pe_int (pa_cons (pe_op op_add (pe_op op_sub (pe_callB cLen (by rfl) T.z_len PySem.boot_len (pa_cons (pv 0) pa_nil)) (pe_callB cLen (by rfl) T.z_len PySem.boot_len (pa_cons (pv 1) pa_nil))) pe_int) pa_nil)))))
      (pss_cons (ps_set (i := 4) sc_divided.nd rfl (Or.inl rfl) (pe_callTy cListOf (by rfl) T.z_list (by decide +kernel) (pa_cons (pv 0) pa_nil)))
      (pss_cons (ps_for PassesOwn.never rfl (pi_range1 rfl T.z_range (pa_cons (pe_callB cLen (by rfl) T.z_len PySem.boot_len (pa_cons (pv 3) pa_nil)) pa_nil)) (pg_name (i := 5) sc_divided.nd rfl (Or.inl rfl)) (pss_cons (ps_set (i := 6) sc_divided.nd rfl (Or.inl rfl) (pe_op op_sub (pe_op op_sub (pe_callB cLen (by rfl) T.z_len PySem.boot_len (pa_cons (pv 3) pa_nil)) pe_int) (pv 5)))
      (pss_cons (ps_set (i := 7) sc_divided.nd rfl (Or.inl rfl) (pe_ix ix_list (pv 4) (pe_op op_sub (pe_op op_add (pv 6) (pe_callB cLen (by rfl) T.z_len PySem.boot_len (pa_cons (pv 1) pa_nil))) pe_int) (fun _ _ => rfl)))
      (pss_one (ps_if (pt_cmpR op_ne (pv 7) pe_int (nomark _)) (pss_cons (ps_set (i := 8) sc_divided.nd rfl (Or.inr rfl) (pe_op op_fdivG (pe_callB cAbs (by rfl) T.z_abs (by decide +kernel) (pa_cons (pe_ix ix_list (pv 1) (pe_un un_neg pe_int) (fun _ _ => rfl)) pa_nil)) (pe_call (ok_greatest T) (hr.mono (by decide)) (by rfl) T.m_greatest T.F_greatest.kp T.b_greatest .nil pass0 (pa_cons (pe_ix ix_list (pv 1) (pe_un un_neg pe_int) (fun _ _ => rfl)) (pa_cons (pv 7) pa_nil)))))
      (pss_cons (ps_set (i := 2) sc_divided.nd rfl (Or.inl rfl) (pe_op op_mulG (pv 2) (pv 8)))
      (pss_cons (ps_setLc (i := 3) (own := [("number", 10)]) (g := gName 10) (tt := tYes) rfl sc_divided.nd rfl rfl (sw_true rfl rfl rfl (by decide +kernel)) (pi_list (pv 3)) (blkOk_by (own := [("number", 10)]) (N := ["row", "by", "many", "found", "rest", "step", "place", "top", "more", "k", "number"]) (sc := defScope s_divided) (by decide +kernel)) (fun _ _ _ _ _ => pg_name (i := 10) sc_divided.nd rfl (Or.inl rfl)) (fun _ _ _ _ _ => pts_nil) (fun _ _ _ _ _ => (pe_op op_mulG (pv 8) (pv 10))))
      (pss_cons (ps_setLc (i := 4) (own := [("number", 10)]) (g := gName 10) (tt := tYes) rfl sc_divided.nd rfl rfl (sw_true rfl rfl rfl (by decide +kernel)) (pi_list (pv 4)) (blkOk_by (own := [("number", 10)]) (N := ["row", "by", "many", "found", "rest", "step", "place", "top", "more", "k", "number"]) (sc := defScope s_divided) (by decide +kernel)) (fun _ _ _ _ _ => pg_name (i := 10) sc_divided.nd rfl (Or.inl rfl)) (fun _ _ _ _ _ => pts_nil) (fun _ _ _ _ _ => (pe_op op_mulG (pv 8) (pv 10))))
      (pss_cons (ps_asg (pe_op op_fdivG (pe_op op_mulG (pv 8) (pv 7)) (pe_ix ix_list (pv 1) (pe_un un_neg pe_int) (fun _ _ => rfl))) (pg_sub (pv 3) (pv 6) set_list))
      (pss_one (ps_for PassesOwn.never rfl (pi_range1 rfl T.z_range (pa_cons (pe_callB cLen (by rfl) T.z_len PySem.boot_len (pa_cons (pv 1) pa_nil)) pa_nil)) (pg_name (i := 9) sc_divided.nd rfl (Or.inl rfl)) (pss_one (ps_asg (pe_op op_sub (pe_ix ix_list (pv 4) (pe_op op_add (pv 6) (pv 9)) (fun _ _ => rfl)) (pe_op op_mulG (pe_ix ix_list (pv 3) (pv 6) (fun _ _ => rfl)) (pe_ix ix_list (pv 1) (pv 9) (fun _ _ => rfl)))) (pg_sub (pv 4) (pe_op op_add (pv 6) (pv 9)) set_list)))))))))) pss_nil)))))
      (pss_one (ps_ret (pe_tup (pa_cons (pv 2) (pa_cons (pe_call (ok_trimmed T) (hr.mono (by decide)) (by rfl) T.m_trimmed T.F_trimmed.kp T.b_trimmed .nil pass0 (pa_cons (pv 3) pa_nil)) (pa_cons (pe_call (ok_trimmed T) (hr.mono (by decide)) (by rfl) T.m_trimmed T.F_trimmed.kp T.b_trimmed .nil pass0 (pa_cons (pv 4) pa_nil)) pa_nil))))))))))), ?_⟩
    refine N.go (σ := [some (.ref a), some (.ref b), none, none, none, none, none, none, none, none, none]) ?_
    have hy : 0 < ys.length := List.length_pos_iff.mpr hne
    obtain ⟨n, hn⟩ : ∃ n, n = xs.length + 1 - ys.length := ⟨_, rfl⟩
    rw [← hn] at c
    have hlc : S ys (ys.length - 1) = ys.getLast hne := by
      rw [S_at, List.getD_eq_getElem?_getD, List.getElem?_eq_getElem (by omega), List.getLast_eq_getElem]; rfl
    have hlc0 : S ys (ys.length - 1) ≠ 0 := by rw [hlc]; exact tr_last ht hne
    have hlast : atI (zV ys) (-1) = some (.int (S ys (ys.length - 1))) := by rw [hlc]; exact atI_lastI hne
    have hlcb : Bd B (S ys (ys.length - 1)) := hB.at _
    walk_at "w"
    intro z
    walk_at "w"
    rw [decide_eq_false hne]
    walk_at "w"
    walk_at "d"
    walk_at "w"
    intro l0
    walk_at "w"
    refine RW.rep (x := 0) (by walk_at "rx") (by omega) fun pf => ?_
    have en : (max 0 ((xs.length : Int) - (ys.length : Int) + 1)).toNat = n := by omega
    rw [en]
    walk_at "d"
    walk_at "w"
    intro pr
    walk_at "d"
    refine N.sub [(pr, .lst (zV xs)), (pf, .lst (zV (List.replicate n 0)))] (by walk_at "sub") ?_
    refine S.forR (n := (n : Int)) (fun t σ f => ∃ m fl rl pf pr y5 y6 y7 y8 y9, σ = [some (.ref a), some (.ref b), some (.int m), some (.ref pf), some (.ref pr), y5, y6, y7, y8, y9, none] ∧ f = [(pr, .lst (zV rl)), (pf, .lst (zV fl))] ∧ t ≤ n ∧ DI xs ys A B n t m fl rl) ?_ ?_ ?_
    · walk_at "w"
      rw [List.length_replicate]
      exact ⟨rfl, by omega, by omega, 1, _, xs, pf, pr, none, none, none, none, none, rfl, rfl, Nat.zero_le _, DI.start hn hA⟩
    · rintro t σ f ht' ⟨m, fl, rl, pf, pr, y5, y6, y7, y8, y9, rfl, rfl, _, hD⟩
      have htn : t < n := by omega
      have hfl := hD.fl
      have hrl := hD.rl
      have htB : t * (B + 1) ≤ n * (B + 1) := Nat.mul_le_mul_right _ (by omega)
      have htB2 : t * B ≤ t * (B + 1) := Nat.mul_le_mul_left _ (by omega)
      have hn2 : (xs.length + 2 - ys.length) * (B + 1) = n * (B + 1) + (B + 1) := by
        rw [show xs.length + 2 - ys.length = n + 1 by omega, Nat.succ_mul]
      rw [hn2] at hAB
      walk_at "d"
      walk_at "w"
      have eP : (fl.length : Int) - 1 - (t : Int) = ((n - 1 - t : Nat) : Int) := by omega
      rw [eP]
      walk_at "d"
      walk_at "w"
      have eT : gat rl (((n - 1 - t : Nat) : Int) + (ys.length : Int) - 1) = S rl (n - 1 - t + ys.length - 1) := by
        rw [show ((n - 1 - t : Nat) : Int) + (ys.length : Int) - 1 = ((n - 1 - t + ys.length - 1 : Nat) : Int) by omega, gat_nat]; rfl
      rw [eT]
      walk_at "d"
      walk_at "w"
      walk_at "if"
      · rename_i htop
        have hD' := hD.step htn hn hy hB hlc0 htop
        obtain ⟨s1, s2, s3, s4, s5⟩ := step_facts hlc0 htop
        have htb : (S rl (n - 1 - t + ys.length - 1)).natAbs < 2 ^ (A + t * (B + 1)) := hD.rb.at _
        have hg0 : 0 < Nat.gcd (S ys (ys.length - 1)).natAbs (S rl (n - 1 - t + ys.length - 1)).natAbs := Nat.gcd_pos_of_pos_left _ (Int.natAbs_pos.mpr hlc0)
        have hdv : CDivG ((S ys (ys.length - 1)).natAbs : Int) ((Nat.gcd (S ys (ys.length - 1)).natAbs (S rl (n - 1 - t + ys.length - 1)).natAbs : Nat) : Int) :=
          CDivG.bits (b := B) (by omega) (by rw [Int.natAbs_natCast]; exact Nat.lt_of_le_of_lt (Nat.gcd_le_left _ (Int.natAbs_pos.mpr hlc0)) hlcb) hB9
        have hdv2 : CDivG (more (S ys (ys.length - 1)) (S rl (n - 1 - t + ys.length - 1)) * S rl (n - 1 - t + ys.length - 1)) (S ys (ys.length - 1)) := CDivG.bits hlc0 hlcb hB9
        walk_at "w"
        refine RW.ixL (by walk_at "rl") hlast ?_
        walk_at "w"
        refine RW.ixL (by walk_at "rl") hlast ?_
        walk_at "w"
        refine WC_greatest ?_
        walk_at "w"
        rw [show ((S ys (ys.length - 1)).natAbs : Int).fdiv (Nat.gcd (S ys (ys.length - 1)).natAbs (S rl (n - 1 - t + ys.length - 1)).natAbs : Nat) = more (S ys (ys.length - 1)) (S rl (n - 1 - t + ys.length - 1)) from rfl]
        obtain ⟨top, hto⟩ : ∃ x, x = S rl (n - 1 - t + ys.length - 1) := ⟨_, rfl⟩
        obtain ⟨lc, hlcd⟩ : ∃ x, x = S ys (ys.length - 1) := ⟨_, rfl⟩
        rw [← hto, ← hlcd] at hD' s1 s2 s3 s4 s5 hdv2 ⊢
        rw [← hto] at htb
        rw [← hlcd] at hlast hlcb hlc0
        obtain ⟨v, hv⟩ : ∃ v, v = putv lc top := ⟨_, rfl⟩
        rw [← hv] at hD' s3 s4 s5
        obtain ⟨mo, hmo⟩ : ∃ mo, mo = more lc top := ⟨_, rfl⟩
        rw [← hmo] at hD' s1 s2 s3 s5 hdv2 ⊢
        have hv2 : (mo * top).fdiv lc = v := by rw [hv, hmo]; rfl
        have hmob : Bd B mo := Nat.lt_of_le_of_lt s2 hlcb
        have hvb : Bd (A + t * (B + 1)) v := Nat.lt_of_le_of_lt s4 htb
        have hok1 : IntMulOk m mo := mulB hD.mb hmob (by omega)
        have hok3 : IntMulOk mo top := mulB hmob htb (by omega)
        walk_at "w"
        walk_at "d"
        refine W.lcZz (ns := fl) (fun x => mo * x) ?_
        walk_at "w"
        refine ⟨by walk_at "rl", by omega, fun _ => rfl, fun x D acc hx => ?_, fun D1 => ?_⟩
        · walk_at "d"
          have hok : IntMulOk mo x := mulB hmob (hD.fb x hx) (by omega)
          walk_at "w"
          exact ⟨rfl, by walk_at "sub"⟩
        walk_at "d"
        walk_at "w"
        refine W.lcZz (ns := rl) (fun x => mo * x) ?_
        walk_at "w"
        refine ⟨by walk_at "rl", by omega, fun _ => rfl, fun x D acc hx => ?_, fun D2 => ?_⟩
        · walk_at "d"
          have hok : IntMulOk mo x := mulB hmob (hD.rb x hx) (by omega)
          walk_at "w"
          exact ⟨rfl, by walk_at "sub"⟩
        walk_at "d"
        walk_at "w"
        refine S.setL ?_
        walk_at "w"
        refine RW.ixL (by walk_at "rl") hlast ?_
        walk_at "w"
        rw [hv2]
        walk_at "w"
        walk_at "set1"
        · rw [zV_length, List.length_map]; omega
        have eP2 : (((n - 1 - t : Nat) : Int)).toNat = n - 1 - t := by omega
        rw [eP2, zV_set]
        walk_at "d"
        generalize hF : (fl.map fun x => mo * x).set (n - 1 - t) v = fl' at hD'
        have hfl' : fl'.length = n := hD'.fl
        have hfv : gat fl' ((n - 1 - t : Nat) : Int) = v := by
          rw [gat_nat, ← hF, getD_set, if_pos rfl, if_pos (by rw [List.length_map]; omega)]
        generalize hR : (rl.map fun x => mo * x) = rl0 at hD'
        have hrl0 : rl0.length = xs.length := by rw [← hR, List.length_map]; exact hrl
        refine N.sub [(D2, .lst (zV rl0)), (D1, .lst (zV fl'))] (by walk_at "sub") ?_
        refine S.forR (n := (ys.length : Int)) (fun k σ f => ∃ y, σ = [some (.ref a), some (.ref b), some (.int (m * mo)), some (.ref D1), some (.ref D2), some (.int (t : Int)), some (.int ((n - 1 - t : Nat) : Int)), some (.int top), some (.int mo), y, none] ∧ f = [(D2, .lst (zV (lp (sbIn v ys (n - 1 - t)) k rl0))), (D1, .lst (zV fl'))]) ?_ ?_ ?_
        · walk_at "w"
          exact ⟨rfl, by omega, by omega, y9, rfl, rfl⟩
        · rintro k σ f hk ⟨y, rfl, rfl⟩
          walk_at "d"
          have hlen : (lp (sbIn v ys (n - 1 - t)) k rl0).length = xs.length := by
            rw [sbIn_eq, lp_len (fun i a => tmIn_len _ _ _ _ _)]; exact hrl0
          have hok : IntMulOk v (gat ys (k : Int)) := mulB hvb (hB.gat _) (by omega)
          refine S.setL ?_
          walk_at "w"
          rw [hfv]
          walk_at "w"
          walk_at "set1"
          · rw [zV_length, hlen]; omega
          have ei : (((n - 1 - t : Nat) : Int) + (k : Int)) = ((n - 1 - t + k : Nat) : Int) := by omega
          have e1 : (((n - 1 - t : Nat) : Int) + (k : Int)).toNat = n - 1 - t + k := by omega
          rw [e1, zV_set, ei, gat_nat, gat_nat]
          walk_at "d"
          walk_at "lp"
          exact ⟨_, rfl, rfl⟩
        · rintro σ f ⟨y, rfl, rfl⟩
          have ek : ((ys.length : Int)).toNat = ys.length := by simp
          rw [ek]
          walk_at "lp"
          exact ⟨m * mo, fl', _, D1, D2, _, _, _, _, _, rfl, rfl, htn, hD'⟩
      · rename_i htop
        walk_at "w"
        walk_at "lp"
        exact ⟨m, fl, rl, pf, pr, _, _, _, _, _, rfl, rfl, htn, hD.skip htn hy htop⟩
    · rintro σ f ⟨m, fl, rl, pf, pr, y5, y6, y7, y8, y9, rfl, rfl, _, hD⟩
      have ek : ((n : Int)).toNat = n := by simp
      rw [ek] at hD
      have hD' := hD.dv hy
      have hfl := hD.fl
      have hrl := hD.rl
      walk_at "w"
      refine WC_trimmed (xs := fl) (by walk_at "rx") (by omega) fun p1 => ?_
      walk_at "w"
      refine WC_trimmed (xs := rl) (by walk_at "rx") (by omega) fun p2 => ?_
      walk_at "w"
      refine ⟨by simp, fun p => ?_⟩
      exact NR.sub (c m (trim fl) (trim rl) hD' hD.mb hD.fb.trim hD.rb.trim (Nat.le_trans (trim_length_le _) (by omega)) p1 p2 p) (by walk_at "sub")

end

section
variable {P : Program} {w : World} {K : PySem.W.Frag} {mg : Str → Option Value} {base : Heap}
/-- by nought -/
def sp_dividedX (C : Addr) : Sp := fun vs H Q E => ∃ (v : V) (b : Addr), vs = [v, .ref b] ∧ H b = some (.lst (zV [])) ∧ NE E (.ref C) none H []
theorem WC_dividedX {C : Addr} {H0 : Hp} {fs : Fs} {Ψ : Value → Option Addr → Fs → Prop} {v : V} {b : Addr} (h : Rx H0 fs b (.lst (zV []))) (q : Ψ (.ref C) none fs) : WCX (sp_dividedX C) [v, .ref b] H0 fs Ψ :=
  fun H k Q E c => ⟨v, b, rfl, h H k, fun H' k' => c _ _ _ _ (k.app k') q⟩
theorem okX_divided (T : Txt K mg) : FnOk P w K mg base (L2.CX P w) 2 T.a_divided T.d_divided ["row", "by"] (sp_dividedX T.A_ByNought) := by
  refine T.F_divided.okX sc_divided (fun vs H Q E h => ?_) (fun cdv A outer s H vs Q E hr h => ?_)
  · obtain ⟨v, b, rfl, _⟩ := h; rfl
  · obtain ⟨v, b, rfl, hb, q⟩ := h
    refine ⟨_, (pss_cons (ps_if (pt_cmpR (op_eqD hr.units) (pv 1) (pe_lst pa_nil) (nomark _)) (pss_one (ps_raise rfl (takes_of rfl rfl rfl rfl) (pmk_own PySem.F.excBase_ValueError T.e_ByNought.x T.e_ByNought.g T.e_ByNought.k (raises_own T.e_ByNought.b T.e_ByNought.t) (by rfl)))) pss_nil)
      pss_never), ?_⟩
    refine N.go (σ := [some v, some (.ref b), none, none, none, none, none, none, none, none, none]) ?_
    walk_at "w"
    intro z
    refine RW.eqZ (xs := []) (ys := []) (by walk_at "rl") (by walk_at "rl") ?_
    walk_at "w"
    exact fun H' k => q H' (k.sub (by walk_at "sub"))

end

section
variable {P : Program} {w : World} {K : PySem.W.Frag} {mg : Str → Option Value} {base : Heap}
def sp_quotient : Sp := fun vs H Q _ => ∃ (a b : Addr) (xs ys q : List Int) (A B : Nat), vs = [.ref a, .ref b] ∧ H a = some (.lst (zV xs)) ∧ H b = some (.lst (zV ys)) ∧ (xs.length ≤ 40000 ∧ ys.length ≤ 40000) ∧ Tr ys ∧ ys ≠ [] ∧ BdL A xs ∧ BdL B ys ∧ (B ≤ 9000) ∧ A + (xs.length + 2 - ys.length) * (B + 1) + B + 1 ≤ 134217728 ∧
  Whole xs ys q ∧ ∀ p, NR Q (.ref p) H [(p, .lst (zV q))]
theorem WC_quotient {H0 : Hp} {fs : Fs} {Φ : CV} {a b : Addr} {xs ys : List Int} (q : List Int) (A B : Nat) (h : Rx H0 fs a (.lst (zV xs))) (h2 : Rx H0 fs b (.lst (zV ys))) (hl : xs.length ≤ 40000 ∧ ys.length ≤ 40000) (ht : Tr ys) (hne : ys ≠ []) (hA : BdL A xs) (hB : BdL B ys) (hB9 : B ≤ 9000) (hAB : A + (xs.length + 2 - ys.length) * (B + 1) + B + 1 ≤ 134217728)
    (hw : Whole xs ys q) (c : ∀ p, Φ (.ref p) ((p, .lst (zV q)) :: fs)) : WC sp_quotient [.ref a, .ref b] H0 fs Φ :=
  fun H k Q E cc => ⟨a, b, xs, ys, q, A, B, rfl, h H k, h2 H k, hl, ht, hne, hA, hB, hB9, hAB, hw, fun p H' k' => cc _ _ _ (k.app k') (c p)⟩
theorem ok_quotient (T : Txt K mg) : FnOk P w K mg base CX0 3 T.a_quotient T.d_quotient ["row", "by"] sp_quotient := by
  refine T.F_quotient.ok sc_quotient (fun vs H Q E h => ?_) (fun cdv A outer s H vs Q E hr h => ?_)
  · obtain ⟨a, b, xs, ys, q, A, B, rfl, _⟩ := h; rfl
  · obtain ⟨a, b, xs, ys, q, A, B, rfl, hXa, hXb, hl, ht, hne, hA, hB, hB9, hAB, hw, c⟩ := h
    refine ⟨_, (pss_cons (ps_set (i := 2) sc_quotient.nd rfl (Or.inl rfl) (pe_call (ok_divided T) (hr.mono (by decide)) (by rfl) T.m_divided T.F_divided.kp T.b_divided .nil pass0 (pa_cons (pv 0) (pa_cons (pv 1) pa_nil))))
      (pss_cons (ps_if (PW.pt (pw_or (pt_cmpR op_ne (pe_ix ix_tup (pv 2) pe_int (fun _ _ => rfl)) pe_int (nomark _)) (pw_or1 (pt_cmpR (op_neD hr.units) (pe_ix ix_tup (pv 2) pe_int (fun _ _ => rfl)) (pe_lst pa_nil) (nomark _))))) (pss_one ps_never) pss_nil)
      (pss_one (ps_ret (pe_ix ix_tup (pv 2) pe_int (fun _ _ => rfl)))))), ?_⟩
    refine N.go (σ := [some (.ref a), some (.ref b), none]) ?_
    walk_at "w"
    refine WC_divided (xs := xs) (ys := ys) A B (by walk_at "rx") (by walk_at "rx") hl ht hne hA hB hB9 hAB fun m qq r hd b1 b2 b3 ql p1 p2 p => ?_
    obtain ⟨e1, e2, e3⟩ := hd.whole ht hne hw
    subst e1 e2 e3
    walk_at "d"
    walk_at "w"
    intro z
    walk_at "w"
    exact NR.sub (c p1) (by walk_at "sub")

end

section
variable {P : Program} {w : World} {K : PySem.W.Frag} {mg : Str → Option Value} {base : Heap}
/-- by nought -/
def sp_quotient1 (C : Addr) : Sp := fun vs H Q E => ∃ (v : V) (b : Addr), vs = [v, .ref b] ∧ H b = some (.lst (zV [])) ∧ NE E (.ref C) none H []
theorem okX1_quotient (T : Txt K mg) : FnOk P w K mg base (L2.CX P w) 3 T.a_quotient T.d_quotient ["row", "by"] (sp_quotient1 T.A_ByNought) := by
  refine T.F_quotient.okX sc_quotient (fun vs H Q E h => ?_) (fun cdv A outer s H vs Q E hr h => ?_)
  · obtain ⟨v, b, rfl, _⟩ := h; rfl
  · obtain ⟨v, b, rfl, hb, q⟩ := h
    refine ⟨_, (pss_cons (ps_set (i := 2) sc_quotient.nd rfl (Or.inl rfl) (pe_callS (okX_divided T) (hr.mono (by decide)) (by rfl) T.m_divided T.F_divided.kp T.b_divided (fun σ => passAt (takes_of rfl rfl rfl rfl) σ) (pa_cons (pv 0) (pa_cons (pv 1) pa_nil))))
      pss_never), ?_⟩
    refine N.go (σ := [some v, some (.ref b), none]) ?_
    walk_at "w"
    refine W.callX ?_
    walk_at "w"
    refine WC_dividedX (by walk_at "rx") ?_
    exact fun H' k => q H' k
/-- not whole -/
def sp_quotient2 (C : Addr) : Sp := fun vs H Q E => ∃ (a b : Addr) (xs ys : List Int) (A B : Nat), vs = [.ref a, .ref b] ∧ H a = some (.lst (zV xs)) ∧ H b = some (.lst (zV ys)) ∧ (xs.length ≤ 40000 ∧ ys.length ≤ 40000) ∧ Tr ys ∧ ys ≠ [] ∧ BdL A xs ∧ BdL B ys ∧ (B ≤ 9000) ∧ A + (xs.length + 2 - ys.length) * (B + 1) + B + 1 ≤ 134217728 ∧
  (∀ q, ¬ Whole xs ys q) ∧ NE E (.ref C) none H []
theorem okX2_quotient (T : Txt K mg) : FnOk P w K mg base (L2.CX P w) 3 T.a_quotient T.d_quotient ["row", "by"] (sp_quotient2 T.A_NotWhole) := by
  refine T.F_quotient.okX sc_quotient (fun vs H Q E h => ?_) (fun cdv A outer s H vs Q E hr h => ?_)
  · obtain ⟨a, b, xs, ys, A, B, rfl, _⟩ := h; rfl
  · obtain ⟨a, b, xs, ys, A, B, rfl, hXa, hXb, hl, ht, hne, hA, hB, hB9, hAB, hw, c⟩ := h
    refine ⟨_, (pss_cons (ps_set (i := 2) sc_quotient.nd rfl (Or.inl rfl) (pe_call (ok_divided T) (hr.mono (by decide)) (by rfl) T.m_divided T.F_divided.kp T.b_divided .nil pass0 (pa_cons (pv 0) (pa_cons (pv 1) pa_nil))))
      (pss_cons (ps_if (PW.pt (pw_or (pt_cmpR op_ne (pe_ix ix_tup (pv 2) pe_int (fun _ _ => rfl)) pe_int (nomark _)) (pw_or1 (pt_cmpR (op_neD hr.units) (pe_ix ix_tup (pv 2) pe_int (fun _ _ => rfl)) (pe_lst pa_nil) (nomark _))))) (pss_one (ps_raise rfl (takes_of rfl rfl rfl rfl) (pmk_own PySem.F.excBase_ValueError T.e_NotWhole.x T.e_NotWhole.g T.e_NotWhole.k (raises_own T.e_NotWhole.b T.e_NotWhole.t) (by rfl)))) pss_nil)
      pss_never)), ?_⟩
    refine N.go (σ := [some (.ref a), some (.ref b), none]) ?_
    walk_at "w"
    refine WC_divided (xs := xs) (ys := ys) A B (by walk_at "rx") (by walk_at "rx") hl ht hne hA hB hB9 hAB fun m qq r hd b1 b2 b3 ql p1 p2 p => ?_
    walk_at "d"
    walk_at "w"
    by_cases h1 : m = 1
    · by_cases h2 : r = []
      · subst h1 h2
        exact absurd hd.isWhole (hw _)
      · rw [decide_eq_true h1]
        walk_at "w"
        intro z
        walk_at "w"
        rw [decide_eq_false h2]
        walk_at "w"
        exact fun H' k => c H' (k.sub (by walk_at "sub"))
    · rw [decide_eq_false h1]
      walk_at "w"
      exact fun H' k => c H' (k.sub (by walk_at "sub"))
theorem FnOk.or {P : Program} {w : World} {K : PySem.W.Frag} {mg : Str → Option Value} {base : Heap} {CX : CXT} {k : Nat} {f : Addr} {fd : FuncData} {ps : List Str} {sp1 sp2 : Sp}
    (F1 : FnOk P w K mg base CX k f fd ps sp1) (F2 : FnOk P w K mg base CX k f fd ps sp2) : FnOk P w K mg base CX k f fd ps (fun vs H Q E => sp1 vs H Q E ∨ sp2 vs H Q E) :=
  ⟨fun vs H Q E h => h.elim (F1.len vs H Q E) (F2.len vs H Q E), fun A outer s H args us vs Q E hr he hb hv hs => hs.elim (F1.run A outer s H args us vs Q E hr he hb hv) (F2.run A outer s H args us vs Q E hr he hb hv)⟩
/-- all three ways -/
theorem okA_quotient (T : Txt K mg) : FnOk P w K mg base (L2.CX P w) 3 T.a_quotient T.d_quotient ["row", "by"] (fun vs H Q E => sp_quotient vs H Q E ∨ (sp_quotient1 T.A_ByNought vs H Q E ∨ sp_quotient2 T.A_NotWhole vs H Q E)) :=
  Pa.FnOk.both (ok_quotient T) (Pa.FnOk.or (okX1_quotient T) (okX2_quotient T))
def sp_quotientX (C D : Addr) : Sp := fun vs H Q E => sp_quotient vs H Q E ∨ (sp_quotient1 C vs H Q E ∨ sp_quotient2 D vs H Q E)
theorem okX_quotient (T : Txt K mg) : FnOk P w K mg base (L2.CX P w) 3 T.a_quotient T.d_quotient ["row", "by"] (sp_quotientX T.A_ByNought T.A_NotWhole) := okA_quotient T
theorem WCB_quotientX {C D : Addr} {H0 : Hp} {fs : Fs} {Φ : CV} {Ψ : Value → Option Addr → Fs → Prop} {a b : Addr} {xs ys : List Int} (q : List Int) (A B : Nat) (h : Rx H0 fs a (.lst (zV xs))) (h2 : Rx H0 fs b (.lst (zV ys))) (hl : xs.length ≤ 40000 ∧ ys.length ≤ 40000) (ht : Tr ys) (hne : ys ≠ []) (hA : BdL A xs) (hB : BdL B ys) (hB9 : B ≤ 9000) (hAB : A + (xs.length + 2 - ys.length) * (B + 1) + B + 1 ≤ 134217728)
    (hw : Whole xs ys q) (c : ∀ p, Φ (.ref p) ((p, .lst (zV q)) :: fs)) : WCB (sp_quotientX C D) [.ref a, .ref b] H0 fs Φ Ψ :=
  fun H k Q E cc _ => .inl ⟨a, b, xs, ys, q, A, B, rfl, h H k, h2 H k, hl, ht, hne, hA, hB, hB9, hAB, hw, fun p H' k' => cc _ _ _ (k.app k') (c p)⟩
theorem WCX1_quotientX {C D : Addr} {H0 : Hp} {fs : Fs} {Ψ : Value → Option Addr → Fs → Prop} {v : V} {b : Addr} (h2 : Rx H0 fs b (.lst (zV []))) (q : Ψ (.ref C) none fs) : WCX (sp_quotientX C D) [v, .ref b] H0 fs Ψ :=
  fun H k Q E c => .inr (.inl ⟨v, b, rfl, h2 H k, fun H' k' => c _ _ _ _ (k.app k') q⟩)
theorem WCX2_quotientX {C D : Addr} {H0 : Hp} {fs : Fs} {Ψ : Value → Option Addr → Fs → Prop} {a b : Addr} {xs ys : List Int} (A B : Nat) (h : Rx H0 fs a (.lst (zV xs))) (h2 : Rx H0 fs b (.lst (zV ys))) (hl : xs.length ≤ 40000 ∧ ys.length ≤ 40000) (ht : Tr ys) (hne : ys ≠ []) (hA : BdL A xs) (hB : BdL B ys) (hB9 : B ≤ 9000) (hAB : A + (xs.length + 2 - ys.length) * (B + 1) + B + 1 ≤ 134217728)
    (hw : ∀ q, ¬ Whole xs ys q) (q : Ψ (.ref D) none fs) : WCX (sp_quotientX C D) [.ref a, .ref b] H0 fs Ψ :=
  fun H k Q E c => .inr (.inr ⟨a, b, xs, ys, A, B, rfl, h H k, h2 H k, hl, ht, hne, hA, hB, hB9, hAB, hw, fun H' k' => c _ _ _ _ (k.app k') q⟩)

end

section
variable {P : Program} {w : World} {K : PySem.W.Frag} {mg : Str → Option Value} {base : Heap}
/-- two noughts -/
def sp_meetX (C : Addr) : Sp := fun vs H Q E => ∃ (a b : Addr), vs = [.ref a, .ref b] ∧ H a = some (.lst (zV [])) ∧ H b = some (.lst (zV [])) ∧ NE E (.ref C) none H []
theorem WC_meetX {C : Addr} {H0 : Hp} {fs : Fs} {Ψ : Value → Option Addr → Fs → Prop} {a b : Addr} (h : Rx H0 fs a (.lst (zV []))) (h2 : Rx H0 fs b (.lst (zV []))) (q : Ψ (.ref C) none fs) : WCX (sp_meetX C) [.ref a, .ref b] H0 fs Ψ :=
  fun H k Q E c => ⟨a, b, rfl, h H k, h2 H k, fun H' k' => c _ _ _ _ (k.app k') q⟩
theorem okX_meet (T : Txt K mg) : FnOk P w K mg base (L2.CX P w) 6 T.a_meet T.d_meet ["ones", "others"] (sp_meetX T.A_NoMeet) := by
  refine T.F_meet.okX sc_meet (fun vs H Q E h => ?_) (fun cdv A outer s H vs Q E hr h => ?_)
  · obtain ⟨a, b, rfl, _⟩ := h; rfl
  · obtain ⟨a, b, rfl, ha, hb, q⟩ := h
    refine ⟨_, (pss_cons (ps_if (PW.pt (pw_and (pt_cmpR (op_eqD hr.units) (pv 0) (pe_lst pa_nil) (nomark _)) (pw_and1 (pt_cmpR (op_eqD hr.units) (pv 1) (pe_lst pa_nil) (nomark _))))) (pss_one (ps_raise rfl (takes_of rfl rfl rfl rfl) (pmk_own PySem.F.excBase_ValueError T.e_NoMeet.x T.e_NoMeet.g T.e_NoMeet.k (raises_own T.e_NoMeet.b T.e_NoMeet.t) (by rfl)))) pss_nil)
      pss_never), ?_⟩
    refine N.go (σ := [some (.ref a), some (.ref b), none, none, none, none]) ?_
    walk_at "w"
    intro z
    refine RW.eqZ (xs := []) (ys := []) (by walk_at "rl") (by walk_at "rl") ?_
    walk_at "w"
    intro z2
    refine RW.eqZ (xs := []) (ys := []) (by walk_at "rl") (by walk_at "rl") ?_
    walk_at "w"
    exact fun H' k => q H' (k.sub (by walk_at "sub"))

end

section
variable {P : Program} {w : World} {K : PySem.W.Frag} {mg : Str → Option Value} {base : Heap}
/-- nought -/
def sp_partsX (C : Addr) : Sp := fun vs H Q E => ∃ (a : Addr), vs = [.ref a] ∧ H a = some (.lst (zV [])) ∧ NE E (.ref C) none H []
theorem WC_partsX {C : Addr} {H0 : Hp} {fs : Fs} {Ψ : Value → Option Addr → Fs → Prop} {a : Addr} (h : Rx H0 fs a (.lst (zV []))) (q : Ψ (.ref C) none fs) : WCX (sp_partsX C) [.ref a] H0 fs Ψ :=
  fun H k Q E c => ⟨a, rfl, h H k, fun H' k' => c _ _ _ _ (k.app k') q⟩
theorem okX_parts (T : Txt K mg) : FnOk P w K mg base (L2.CX P w) 7 T.a_parts T.d_parts ["row"] (sp_partsX T.A_NoParts) := by
  refine T.F_parts.okX sc_parts (fun vs H Q E h => ?_) (fun cdv A outer s H vs Q E hr h => ?_)
  · obtain ⟨a, rfl, _⟩ := h; rfl
  · obtain ⟨a, rfl, ha, q⟩ := h
    refine ⟨_, (pss_cons (ps_if (pt_cmpR (op_eqD hr.units) (pv 0) (pe_lst pa_nil) (nomark _)) (pss_one (ps_raise rfl (takes_of rfl rfl rfl rfl) (pmk_own PySem.F.excBase_ValueError T.e_NoParts.x T.e_NoParts.g T.e_NoParts.k (raises_own T.e_NoParts.b T.e_NoParts.t) (by rfl)))) pss_nil)
      pss_never), ?_⟩
    refine N.go (σ := [some (.ref a), none, none, none, none, none, none]) ?_
    walk_at "w"
    intro z
    refine RW.eqZ (xs := []) (ys := []) (by walk_at "rl") (by walk_at "rl") ?_
    walk_at "w"
    exact fun H' k => q H' (k.sub (by walk_at "sub"))

end

section
variable {P : Program} {w : World} {K : PySem.W.Frag} {mg : Str → Option Value} {base : Heap}
def sp_whole_ofX (C : Addr) : Sp := fun vs H Q E => ∃ (a : List Nat), vs = [.str (tx a)] ∧ a.length ≤ 640 ∧ (∀ n, 0 < n → a = TL.numL n → NR Q (.int (n : Int)) H []) ∧ ((∀ n, 0 < n → a ≠ TL.numL n) → NE E (.ref C) none H [])
theorem WC_whole_ofX {C : Addr} {H0 : Hp} {fs : Fs} {Φ : CV} {Ψ : Value → Option Addr → Fs → Prop} {a : List Nat} (hl : a.length ≤ 640) (q : ∀ n, 0 < n → a = TL.numL n → Φ (.int (n : Int)) fs) (q2 : (∀ n, 0 < n → a ≠ TL.numL n) → Ψ (.ref C) none fs) : WCB (sp_whole_ofX C) [.str (tx a)] H0 fs Φ Ψ :=
  fun H k Q E cc ce => ⟨a, rfl, hl, fun n h1 h2 H' k' => cc _ _ _ (k.app k') (q n h1 h2), fun h H' k' => ce _ _ _ _ (k.app k') (q2 h)⟩
theorem okX_whole_of (T : Txt K mg) : FnOk P w K mg base (L2.CX P w) 1 T.a_whole_of T.d_whole_of ["figures"] (sp_whole_ofX T.A_NotWritten) := by
  refine T.F_whole_of.okX sc_whole_of (fun vs H Q E h => ?_) (fun cdv A outer s H vs Q E hr h => ?_)
  · obtain ⟨a, rfl, _⟩ := h; rfl
  · obtain ⟨a, rfl, hl, q, qe⟩ := h
    refine ⟨_, (pss_cons (ps_for passesX rfl (pi_str (pv 0)) (pg_name (i := 1) sc_whole_of.nd rfl (Or.inl rfl)) (pss_one (ps_if (pt_cmpR op_notInS (pv 1) (pe_globS (l := [48, 49, 50, 51, 52, 53, 54, 55, 56, 57]) (by rfl) T.g_FIGURES (by decide +kernel)) rfl) (pss_one (ps_raise rfl (takes_of rfl rfl rfl rfl) (pmk_own PySem.F.excBase_ValueError T.e_NotWritten.x T.e_NotWritten.g T.e_NotWritten.k (raises_own T.e_NotWritten.b T.e_NotWritten.t) (by rfl)))) pss_nil)))
      (pss_cons (ps_if (PW.pt (pw_or (pt_cmpR op_eq (pv 0) (pe_strL (l := []) (by decide +kernel)) (nomark _)) (pw_or1 (pt_cmpR op_eq (pe_ix ix_str (pv 0) pe_int (fun _ _ => rfl)) (pe_strL (l := [48]) (by decide +kernel)) (nomark _))))) (pss_one (ps_raise rfl (takes_of rfl rfl rfl rfl) (pmk_own PySem.F.excBase_ValueError T.e_NotWritten.x T.e_NotWritten.g T.e_NotWritten.k (raises_own T.e_NotWritten.b T.e_NotWritten.t) (by rfl)))) pss_nil)
      (pss_one (ps_ret (pe_callTy cInt (by rfl) T.z_int (by decide +kernel) (pa_cons (pv 0) pa_nil)))))), ?_⟩
    refine N.go (σ := [some (.str (tx a)), none]) ?_
    walk_at "w"
    refine S.forS (a := a) (fun i σ f => (∃ y, σ = [some (.str (tx a)), y]) ∧ f = [] ∧ ∀ c ∈ a.take i, 48 ≤ c ∧ c ≤ 57) ?_ ?_ ?_
    · walk_at "w"
      exact ⟨rfl, ⟨none, rfl⟩, rfl, fun c h => nomatch h⟩
    · rintro i ch σ f hi ⟨⟨y, rfl⟩, rfl, hd⟩
      walk_at "d"
      walk_at "w"
      by_cases hch : 48 ≤ ch ∧ ch ≤ 57
      · have hin : ch ∈ [48, 49, 50, 51, 52, 53, 54, 55, 56, 57] := by simp; omega
        rw [decide_eq_true hin]
        walk_at "w"
        walk_at "lp"
        refine ⟨⟨_, rfl⟩, rfl, fun c hc => ?_⟩
        rw [List.take_add_one, hi] at hc
        rcases List.mem_append.mp hc with hc | hc
        · exact hd c hc
        · have : c = ch := by simpa using hc
          rw [this]; exact hch
      · have hin : ¬ ch ∈ [48, 49, 50, 51, 52, 53, 54, 55, 56, 57] := by simp; omega
        rw [decide_eq_false hin]
        walk_at "w"
        refine fun H' k => qe (fun n hn e => hch ?_) H' (k.sub (by walk_at "sub"))
        rw [e] at hi
        exact TL.numL_digits n ch (List.mem_of_getElem? hi)
    · rintro σ f ⟨⟨y, rfl⟩, rfl, hd⟩
      rw [List.take_length] at hd
      walk_at "w"
      by_cases hne : a = []
      · rw [decide_eq_true hne]
        walk_at "w"
        exact fun H' k => qe (fun n hn e => TL.numL_ne n (by rw [← e, hne])) H' (k.sub (by walk_at "sub"))
      · rw [decide_eq_false hne]
        obtain ⟨c, r, hc⟩ : ∃ c r, a = c :: r := by
          cases a with
          | nil => exact absurd rfl hne
          | cons c r => exact ⟨c, r, rfl⟩
        walk_at "w"
        refine RW.ixC (c := c) (by omega) (by rw [hc]; exact (atI_nat (show (c :: r)[0]? = some c from rfl) : atI (c :: r) ((0 : Nat) : Int) = some c)) ?_
        walk_at "w"
        by_cases h48 : c = 48
        · subst h48
          rw [decide_eq_true (rfl : [48] = [48])]
          walk_at "w"
          refine fun H' k => qe (fun n hn e => ?_) H' (k.sub (by walk_at "sub"))
          obtain ⟨c2, r2, e2, h2⟩ := numL_head hn
          rw [← e, hc] at e2
          exact h2 (List.cons.inj e2).1.symm
        · rw [decide_eq_false (show ¬ [c] = [48] from fun z => h48 (List.cons.inj z).1)]
          walk_at "w"
          obtain ⟨n, hn, e⟩ := numL_of_digits hd hne (by rw [hc]; intro z; exact h48 (Option.some.inj z))
          rw [e] at hl ⊢
          refine RC.intN hl ?_
          exact NR.sub (q n hn e) (by walk_at "sub")

end

section
variable {P : Program} {w : World} {K : PySem.W.Frag} {mg : Str → Option Value} {base : Heap}
def sp_power_ofX (C : Addr) : Sp := fun vs H Q E => ∃ (a : List Nat), vs = [.str (tx a)] ∧ a.length ≤ 640 ∧ (∀ p, p < 100 → a = lett p → NR Q (.int (p : Int)) H []) ∧ ((∀ p, p < 100 → a ≠ lett p) → NE E (.ref C) none H [])
theorem WC_power_ofX {C : Addr} {H0 : Hp} {fs : Fs} {Φ : CV} {Ψ : Value → Option Addr → Fs → Prop} {a : List Nat} (hl : a.length ≤ 640) (q : ∀ p, p < 100 → a = lett p → Φ (.int (p : Int)) fs) (q2 : (∀ p, p < 100 → a ≠ lett p) → Ψ (.ref C) none fs) : WCB (sp_power_ofX C) [.str (tx a)] H0 fs Φ Ψ :=
  fun H k Q E cc ce => ⟨a, rfl, hl, fun n h1 h2 H' k' => cc _ _ _ (k.app k') (q n h1 h2), fun h H' k' => ce _ _ _ _ (k.app k') (q2 h)⟩
theorem lett_two {p : Nat} (h : 2 ≤ p) : lett p = 120 :: 94 :: TL.numL p := by unfold lett; rw [if_neg (by omega), if_neg (by omega)]; rfl
theorem numL_two {n : Nat} (h : (TL.numL n).length ≤ 2) : n < 100 := by
  refine Nat.lt_of_not_le fun z => ?_
  have e1 := TL.numL_step (n := n) (by omega)
  have e2 := TL.numL_step (n := n / 10) (by omega)
  have e3 := List.length_pos_iff.mpr (TL.numL_ne (n / 10 / 10))
  rw [e1, e2] at h
  simp only [List.length_append, List.length_singleton] at h
  omega
theorem okX_power_of (T : Txt K mg) : FnOk P w K mg base (L2.CX P w) 2 T.a_power_of T.d_power_of ["line"] (sp_power_ofX T.A_NotWritten) := by
  refine T.F_power_of.okX sc_power_of (fun vs H Q E h => ?_) (fun cdv A outer s H vs Q E hr h => ?_)
  · obtain ⟨a, rfl, _⟩ := h; rfl
  · obtain ⟨a, rfl, hl, q, qe⟩ := h
    refine ⟨_, (pss_cons (ps_if (pt_cmpR op_eq (pv 0) (pe_strL (l := []) (by decide +kernel)) (nomark _)) (pss_one (ps_ret pe_int)) pss_nil)
      (pss_cons (ps_if (pt_cmpR op_eq (pv 0) (pe_strL (l := [120]) (by decide +kernel)) (nomark _)) (pss_one (ps_ret pe_int)) pss_nil)
      (pss_cons (ps_if (PW.pt (pw_or (pt_cmpR op_ne (pe_slice sl_strR (pv 0) po_none (po_some pe_int)) (pe_strL (l := [120, 94]) (by decide +kernel)) (nomark _)) (pw_or (pt_cmpR op_gt (pe_callB cLenS (by rfl) T.z_len PySem.boot_len (pa_cons (pv 0) pa_nil)) pe_int (nomark _)) (pw_or1 (pt_cmpR op_eq (pv 0) (pe_strL (l := [120, 94, 49]) (by decide +kernel)) (nomark _)))))) (pss_one (ps_raise rfl (takes_of rfl rfl rfl rfl) (pmk_own PySem.F.excBase_ValueError T.e_NotWritten.x T.e_NotWritten.g T.e_NotWritten.k (raises_own T.e_NotWritten.b T.e_NotWritten.t) (by rfl)))) pss_nil)
      (pss_one (ps_ret (pe_callS (okX_whole_of T) (hr.mono (by decide)) (by rfl) T.m_whole_of T.F_whole_of.kp T.b_whole_of (fun σ => passAt (takes_of rfl rfl rfl rfl) σ) (pa_cons (pe_slice sl_strR (pv 0) (po_some pe_int) po_none) pa_nil))))))), ?_⟩
    refine N.go (σ := [some (.str (tx a))]) ?_
    have hll : a.length ≤ 1000000 := by omega
    walk_at "w"
    by_cases h0 : a = []
    · subst h0
      walk_at "w"
      exact NR.sub (q 0 (by decide) rfl) (by walk_at "sub")
    rw [decide_eq_false h0]
    walk_at "w"
    by_cases h1 : a = [120]
    · rw [decide_eq_true h1]
      walk_at "w"
      exact NR.sub (q 1 (by decide) h1) (by walk_at "sub")
    rw [decide_eq_false h1]
    walk_at "w"
    refine RS.takeS (by decide) hll ?_
    walk_at "w"
    have big : ∀ p, p < 100 → a = lett p → 2 ≤ p := fun p hp e => by
      refine Nat.le_of_not_lt fun z => ?_
      rcases (show p = 0 ∨ p = 1 by omega) with rfl | rfl
      · exact h0 e
      · exact h1 e
    by_cases h2 : a.take (Int.toNat 2) = [120, 94]
    · rw [decide_eq_true h2]
      walk_at "w"
      by_cases h4 : a.length ≤ 4
      · rw [decide_eq_false (show ¬ (4 : Int) < (a.length : Int) by omega)]
        walk_at "w"
        obtain ⟨b, hb⟩ : ∃ b, a = 120 :: 94 :: b := ⟨a.drop 2, by
          have := List.take_append_drop 2 a
          rw [show a.take 2 = [120, 94] from h2] at this
          exact this.symm⟩
        by_cases h5 : a = [120, 94, 49]
        · rw [decide_eq_true h5]
          walk_at "w"
          refine fun H' k => qe (fun p hp e => ?_) H' (k.sub (by walk_at "sub"))
          have hb2 := big p hp e
          rw [h5, lett_two hb2] at e
          have := numL_one.mp (List.cons.inj (List.cons.inj e).2).2.symm
          omega
        · rw [decide_eq_false h5]
          walk_at "w"
          refine W.callB ?_
          walk_at "w"
          refine RS.dropS (i := 2) (by decide) hll ?_
          walk_at "w"
          have eb : a.drop (Int.toNat 2) = b := by rw [hb]; rfl
          rw [eb]
          have hbl : b.length ≤ 2 := by rw [hb] at h4; simp only [List.length_cons] at h4; omega
          refine WC_whole_ofX (by omega) (fun n hn e => ?_) (fun hno => ?_)
          · have hn1 : n ≠ 1 := fun z => h5 (by rw [hb, e, z]; rfl)
            have e2 : a = lett n := by rw [hb, e, lett_two (by omega)]
            exact NR.sub (q n (numL_two (by rw [← e]; exact hbl)) e2) (by walk_at "sub")
          · refine fun H' k => qe (fun p hp e => ?_) H' (k.sub (by walk_at "sub"))
            have hb2 := big p hp e
            rw [hb, lett_two hb2] at e
            exact hno p (by omega) (List.cons.inj (List.cons.inj e).2).2
      · rw [decide_eq_true (show (4 : Int) < (a.length : Int) by omega)]
        walk_at "w"
        refine fun H' k => qe (fun p hp e => ?_) H' (k.sub (by walk_at "sub"))
        have hb2 := big p hp e
        have := TL.numL_len (n := p) (k := 2) (by decide) (by omega)
        rw [e, lett_two hb2] at h4
        simp only [List.length_cons] at h4
        omega
    · rw [decide_eq_false h2]
      walk_at "w"
      refine fun H' k => qe (fun p hp e => ?_) H' (k.sub (by walk_at "sub"))
      exact h2 (by rw [e, lett_two (big p hp e)]; rfl)

end

section
variable {P : Program} {w : World} {K : PySem.W.Frag} {mg : Str → Option Value} {base : Heap}
def sp_read_termX (C : Addr) : Sp := fun vs H Q E => ∃ (a : List Nat), vs = [.str (tx a)] ∧ a.length ≤ 640 ∧ (∀ n p, 0 < n → p < 100 → a = trm n p → ∀ r, NR Q (.ref r) H [(r, .tup [.int (n : Int), .int (p : Int)])]) ∧ ((∀ n p, 0 < n → p < 100 → a ≠ trm n p) → NE E (.ref C) none H [])
theorem WC_read_termX {C : Addr} {H0 : Hp} {fs : Fs} {Φ : CV} {Ψ : Value → Option Addr → Fs → Prop} {a : List Nat} (hl : a.length ≤ 640) (q : ∀ n p, 0 < n → p < 100 → a = trm n p → ∀ r, Φ (.ref r) ((r, .tup [.int (n : Int), .int (p : Int)]) :: fs)) (q2 : (∀ n p, 0 < n → p < 100 → a ≠ trm n p) → Ψ (.ref C) none fs) : WCB (sp_read_termX C) [.str (tx a)] H0 fs Φ Ψ :=
  fun H k Q E cc ce => ⟨a, rfl, hl, fun n p h1 h2 h3 r H' k' => cc _ _ _ (k.app k') (q n p h1 h2 h3 r), fun h H' k' => ce _ _ _ _ (k.app k') (q2 h)⟩
theorem okX_read_term (T : Txt K mg) : FnOk P w K mg base (L2.CX P w) 3 T.a_read_term T.d_read_term ["line"] (sp_read_termX T.A_NotWritten) := by
  refine T.F_read_term.okX sc_read_term (fun vs H Q E h => ?_) (fun cdv A outer s H vs Q E hr h => ?_)
  · obtain ⟨a, rfl, _⟩ := h; rfl
  · obtain ⟨a, rfl, hl, q, qe⟩ := h
    refine ⟨_, (pss_cons (ps_set (i := 1) sc_read_term.nd rfl (Or.inl rfl) (pv 0))
      (pss_cons (ps_set (i := 2) sc_read_term.nd rfl (Or.inl rfl) pe_int)
      (pss_cons (ps_if (pt_cmpR op_inS (pe_strL (l := [120]) (by decide +kernel)) (pv 0) rfl) (pss_cons (ps_set (i := 1) sc_read_term.nd rfl (Or.inl rfl) (pe_slice sl_strR (pv 0) po_none (po_some (pe_m1 PySem.F.slot_str_index PySem.F.type_str_index mt_index (pv 0) (pe_strL (l := [120]) (by decide +kernel))))))
      (pss_one (ps_set (i := 2) sc_read_term.nd rfl (Or.inl rfl) (pe_callS (okX_power_of T) (hr.mono (by decide)) (by rfl) T.m_power_of T.F_power_of.kp T.b_power_of (fun σ => passAt (takes_of rfl rfl rfl rfl) σ) (pa_cons (pe_slice sl_strR (pv 0) (po_some (pe_callB cLenS (by rfl) T.z_len PySem.boot_len (pa_cons (pv 1) pa_nil))) po_none) pa_nil))))) pss_nil)
      (pss_cons (ps_if (PW.pt (pw_and (pt_cmpR op_eq (pv 1) (pe_strL (l := []) (by decide +kernel)) (nomark _)) (pw_and1 (pt_cmpR op_gt (pv 2) pe_int (nomark _))))) (pss_one (ps_ret (pe_tup (pa_cons pe_int (pa_cons (pv 2) pa_nil))))) pss_nil)
      (pss_cons (ps_set (i := 3) sc_read_term.nd rfl (Or.inl rfl) (pe_callS (okX_whole_of T) (hr.mono (by decide)) (by rfl) T.m_whole_of T.F_whole_of.kp T.b_whole_of (fun σ => passAt (takes_of rfl rfl rfl rfl) σ) (pa_cons (pv 1) pa_nil)))
      (pss_cons (ps_if (PW.pt (pw_and (pt_cmpR op_eq (pv 3) pe_int (nomark _)) (pw_and1 (pt_cmpR op_gt (pv 2) pe_int (nomark _))))) (pss_one (ps_raise rfl (takes_of rfl rfl rfl rfl) (pmk_own PySem.F.excBase_ValueError T.e_NotWritten.x T.e_NotWritten.g T.e_NotWritten.k (raises_own T.e_NotWritten.b T.e_NotWritten.t) (by rfl)))) pss_nil)
      (pss_one (ps_ret (pe_tup (pa_cons (pv 3) (pa_cons (pv 2) pa_nil))))))))))), ?_⟩
    refine N.go (σ := [some (.str (tx a)), none, none, none]) ?_
    have hll : a.length ≤ 1000000 := by omega
    walk_at "w"
    walk_at "d"
    walk_at "w"
    walk_at "d"
    walk_at "w"
    by_cases hx : 120 ∈ a
    · rw [decide_eq_true hx]
      obtain ⟨F, R, e, hfr⟩ := split_x hx
      subst e
      have hlF : F.length + R.length + 1 ≤ 640 := by simp only [List.length_append, List.length_cons] at hl; omega
      have hfl : F.length ≤ 1000000 := by omega
      walk_at "w"
      refine RM.indexL hfr ?_
      walk_at "w"
      refine RS.takeS (by omega) hll ?_
      have et : (F ++ 120 :: R).take ((F.length : Int)).toNat = F := by
        rw [Int.toNat_natCast, List.take_left]
      rw [et]
      walk_at "d"
      walk_at "w"
      refine W.callB ?_
      walk_at "w"
      refine RS.dropS (by omega) hll ?_
      have ed : (F ++ 120 :: R).drop ((F.length : Int)).toNat = 120 :: R := by
        rw [Int.toNat_natCast, List.drop_left]
      rw [ed]
      walk_at "w"
      refine WC_power_ofX (by simp only [List.length_cons]; omega) (fun p hp ep => ?_) (fun hno => ?_)
      · have hp0 : 0 < p := Nat.pos_of_ne_zero fun z => by rw [z] at ep; exact nomatch ep
        walk_at "d"
        walk_at "w"
        by_cases hF : F = []
        · rw [decide_eq_true hF]
          walk_at "w"
          rw [decide_eq_true (show (0 : Int) < (p : Int) by omega)]
          walk_at "w"
          refine ⟨by simp, fun r => ?_⟩
          refine NR.sub (q 1 p (by decide) hp ?_ r) (by walk_at "sub")
          rw [trm_x hp0, if_pos rfl, ← ep, hF]
        · rw [decide_eq_false hF]
          walk_at "w"
          refine W.callB ?_
          walk_at "w"
          refine WC_whole_ofX (by omega) (fun n hn en => ?_) (fun hno => ?_)
          · walk_at "d"
            walk_at "w"
            by_cases n1 : n = 1
            · subst n1
              walk_at "w"
              rw [decide_eq_true (show (0 : Int) < (p : Int) by omega)]
              walk_at "w"
              refine fun H' k => qe (fun n2 p2 h1 h2 e2 => ?_) H' (k.sub (by walk_at "sub"))
              have hp2 : 0 < p2 := Nat.pos_of_ne_zero fun z => by
                rw [z, trm_zero] at e2
                exact numL_x n2 (by rw [← e2]; simp)
              obtain ⟨R2, er⟩ := lett_x hp2
              rw [trm_x hp2, er] at e2
              obtain ⟨e3, _⟩ := split_x_eq e2 hfr (by split; exact List.not_mem_nil; exact numL_x _)
              by_cases h21 : n2 = 1
              · rw [if_pos h21] at e3; exact hF e3
              · rw [if_neg h21, en] at e3; exact h21 (TL.numL_inj e3).symm
            · rw [decide_eq_false (show ¬ (n : Int) = 1 by omega)]
              walk_at "w"
              refine ⟨by simp, fun r => ?_⟩
              refine NR.sub (q n p hn hp ?_ r) (by walk_at "sub")
              rw [trm_x hp0, if_neg n1, ← ep, en]
          · refine fun H' k => qe (fun n2 p2 h1 h2 e2 => ?_) H' (k.sub (by walk_at "sub"))
            have hp2 : 0 < p2 := Nat.pos_of_ne_zero fun z => by
              rw [z, trm_zero] at e2
              exact numL_x n2 (by rw [← e2]; simp)
            obtain ⟨R2, er⟩ := lett_x hp2
            rw [trm_x hp2, er] at e2
            obtain ⟨e3, _⟩ := split_x_eq e2 hfr (by split; exact List.not_mem_nil; exact numL_x _)
            by_cases h21 : n2 = 1
            · rw [if_pos h21] at e3; exact hF e3
            · rw [if_neg h21] at e3; exact hno n2 h1 e3
      · refine fun H' k => qe (fun n2 p2 h1 h2 e2 => ?_) H' (k.sub (by walk_at "sub"))
        have hp2 : 0 < p2 := Nat.pos_of_ne_zero fun z => by
          rw [z, trm_zero] at e2
          exact numL_x n2 (by rw [← e2]; simp)
        obtain ⟨R2, er⟩ := lett_x hp2
        rw [trm_x hp2, er] at e2
        obtain ⟨_, e4⟩ := split_x_eq e2 hfr (by split; exact List.not_mem_nil; exact numL_x _)
        exact hno p2 h2 (by rw [er, e4])
    · rw [decide_eq_false hx]
      have nox : ∀ n p, 0 < n → p < 100 → a = trm n p → p = 0 := fun n p h1 h2 e => by
        refine Nat.eq_zero_of_not_pos fun hp => hx ?_
        obtain ⟨R2, er⟩ := lett_x hp
        rw [e, trm_x hp, er]; simp
      walk_at "w"
      by_cases ha : a = []
      · subst ha
        walk_at "w"
        refine W.callB ?_
        walk_at "w"
        refine WC_whole_ofX (by decide) (fun n hn en => absurd en.symm (TL.numL_ne n)) (fun hno => ?_)
        refine fun H' k => qe (fun n2 p2 h1 h2 e2 => ?_) H' (k.sub (by walk_at "sub"))
        exact trm_ne _ _ e2.symm
      · rw [decide_eq_false ha]
        walk_at "w"
        refine W.callB ?_
        walk_at "w"
        refine WC_whole_ofX (by omega) (fun n hn en => ?_) (fun hno => ?_)
        · walk_at "d"
          walk_at "w"
          have fin : ∀ r, NR Q (.ref r) H [(r, .tup [.int (n : Int), .int ((0 : Nat) : Int)])] := q n 0 hn (by decide) (by rw [trm_zero, en])
          by_cases n1 : n = 1
          · subst n1
            walk_at "w"
            refine ⟨by simp, fun r => ?_⟩
            exact NR.sub (fin r) (by walk_at "sub")
          · rw [decide_eq_false (show ¬ (n : Int) = 1 by omega)]
            walk_at "w"
            refine ⟨by simp, fun r => ?_⟩
            exact NR.sub (fin r) (by walk_at "sub")
        · refine fun H' k => qe (fun n2 p2 h1 h2 e2 => ?_) H' (k.sub (by walk_at "sub"))
          have := nox n2 p2 h1 h2 e2
          rw [this, trm_zero] at e2
          exact hno n2 h1 e2

end

section
variable {P : Program} {w : World} {K : PySem.W.Frag} {mg : Str → Option Value} {base : Heap}
def sp_readX (C : Addr) : Sp := fun vs H Q E => ∃ (a : List Nat), vs = [.str (tx a)] ∧ a.length ≤ 90000 ∧ Rn 640 a ∧ (∀ xs, Tr xs → xs.length ≤ 100 → wr xs = a → ∀ r, NR Q (.ref r) H [(r, .lst (zV xs))]) ∧ (¬ Wd a → NE E (.ref C) none H [])
theorem WC_readX {C : Addr} {H0 : Hp} {fs : Fs} {Φ : CV} {Ψ : Value → Option Addr → Fs → Prop} {a : List Nat} (hl : a.length ≤ 90000) (hr : Rn 640 a) (q : ∀ xs, Tr xs → xs.length ≤ 100 → wr xs = a → ∀ r, Φ (.ref r) ((r, .lst (zV xs)) :: fs)) (q2 : ¬ Wd a → Ψ (.ref C) none fs) : WCB (sp_readX C) [.str (tx a)] H0 fs Φ Ψ :=
  fun H k Q E cc ce => ⟨a, rfl, hl, hr, fun n p h1 h2 r H' k' => cc _ _ _ (k.app k') (q n p h1 h2 r), fun h H' k' => ce _ _ _ _ (k.app k') (q2 h)⟩
theorem WCX_readX {C : Addr} {H0 : Hp} {fs : Fs} {Ψ : Value → Option Addr → Fs → Prop} {a : List Nat} (hl : a.length ≤ 90000) (hr : Rn 640 a) (hw : ¬ Wd a) (q2 : Ψ (.ref C) none fs) : WCX (sp_readX C) [.str (tx a)] H0 fs Ψ :=
  fun H k Q E ce => ⟨a, rfl, hl, hr, fun xs h1 h2 h3 => absurd ⟨xs, h1, h2, h3⟩ hw, fun _ H' k' => ce _ _ _ _ (k.app k') q2⟩
theorem okX_read (T : Txt K mg) : FnOk P w K mg base (L2.CX P w) 4 T.a_read T.d_read ["line"] (sp_readX T.A_NotWritten) := by
  refine T.F_read.okX sc_read (fun vs H Q E h => ?_) (fun cdv A outer s H vs Q E hr h => ?_)
  · obtain ⟨a, rfl, _⟩ := h; rfl
  · obtain ⟨a, rfl, hl, hrn, q, qe⟩ := h
    refine ⟨_, (pss_cons (ps_if (pt_cmpR op_eq (pv 0) (pe_strL (l := [48]) (by decide +kernel)) (nomark _)) (pss_one (ps_ret (pe_lst pa_nil))) pss_nil)
      (pss_cons (ps_set (i := 1) sc_read.nd rfl (Or.inl rfl) pe_int)
      (pss_cut (ps_if (pt_cmpR op_eq (pe_slice sl_strR (pv 0) po_none (po_some pe_int)) (pe_strL (l := [45]) (by decide +kernel)) (nomark _)) (pss_cons (ps_set (i := 1) sc_read.nd rfl (Or.inl rfl) (pe_un un_neg pe_int))
      (pss_one (ps_set (i := 0) sc_read.nd rfl (Or.inl rfl) (pe_slice sl_strR (pv 0) (po_some pe_int) po_none)))) pss_nil)
      (pss_cons (ps_set (i := 2) sc_read.nd rfl (Or.inl rfl) (pe_m1 PySem.F.slot_str_split PySem.F.type_str_split mt_splitR (pv 0) (pe_strL (l := [32]) (by decide +kernel))))
      (pss_cons (ps_set (i := 3) sc_read.nd rfl (Or.inl rfl) (pe_op op_rep (pe_lst (pa_cons pe_int pa_nil)) pe_int))
      (pss_cons (ps_set (i := 4) sc_read.nd rfl (Or.inl rfl) pe_int)
      (pss_cons (ps_for passesX rfl (pi_range1 rfl T.z_range (pa_cons (pe_callB cLen (by rfl) T.z_len PySem.boot_len (pa_cons (pv 2) pa_nil)) pa_nil)) (pg_name (i := 5) sc_read.nd rfl (Or.inl rfl)) (pss_one (ps_if (pt_cmpR op_eq (pe_op op_mod (pv 5) pe_int) pe_int (nomark _)) (pss_cons (ps_set (i := 6) sc_read.nd rfl (Or.inl rfl) (pe_callS (okX_read_term T) (hr.mono (by decide)) (by rfl) T.m_read_term T.F_read_term.kp T.b_read_term (fun σ => passAt (takes_of rfl rfl rfl rfl) σ) (pa_cons (pe_ix ix_list (pv 2) (pv 5) (fun _ _ => rfl)) pa_nil)))
      (pss_cons (ps_if (pt_cmpR op_ge (pe_ix ix_tup (pv 6) pe_int (fun _ _ => rfl)) (pv 4) (nomark _)) (pss_one (ps_raise rfl (takes_of rfl rfl rfl rfl) (pmk_own PySem.F.excBase_ValueError T.e_NotWritten.x T.e_NotWritten.g T.e_NotWritten.k (raises_own T.e_NotWritten.b T.e_NotWritten.t) (by rfl)))) pss_nil)
      (pss_cons (ps_set (i := 4) sc_read.nd rfl (Or.inl rfl) (pe_ix ix_tup (pv 6) pe_int (fun _ _ => rfl)))
      (pss_one (ps_asg (pe_op op_mulG (pv 1) (pe_ix ix_tup (pv 6) pe_int (fun _ _ => rfl))) (pg_sub (pv 3) (pv 4) set_list)))))) (pss_one (ps_if (pt_cmpR op_eq (pe_ix ix_list (pv 2) (pv 5) (fun _ _ => rfl)) (pe_strL (l := [43]) (by decide +kernel)) (nomark _)) (pss_one (ps_set (i := 1) sc_read.nd rfl (Or.inl rfl) pe_int)) (pss_one (ps_if (pt_cmpR op_eq (pe_ix ix_list (pv 2) (pv 5) (fun _ _ => rfl)) (pe_strL (l := [45]) (by decide +kernel)) (nomark _)) (pss_one (ps_set (i := 1) sc_read.nd rfl (Or.inl rfl) (pe_un un_neg pe_int))) (pss_one (ps_raise rfl (takes_of rfl rfl rfl rfl) (pmk_own PySem.F.excBase_ValueError T.e_NotWritten.x T.e_NotWritten.g T.e_NotWritten.k (raises_own T.e_NotWritten.b T.e_NotWritten.t) (by rfl)))))))))))
      (pss_cons (ps_if (pt_cmpR op_eq (pe_op op_mod (pe_callB cLen (by rfl) T.z_len PySem.boot_len (pa_cons (pv 2) pa_nil)) pe_int) pe_int (nomark _)) (pss_one (ps_raise rfl (takes_of rfl rfl rfl rfl) (pmk_own PySem.F.excBase_ValueError T.e_NotWritten.x T.e_NotWritten.g T.e_NotWritten.k (raises_own T.e_NotWritten.b T.e_NotWritten.t) (by rfl)))) pss_nil)
      (pss_one (ps_ret (pe_call (ok_trimmed T) (hr.mono (by decide)) (by rfl) T.m_trimmed T.F_trimmed.kp T.b_trimmed .nil pass0 (pa_cons (pv 3) pa_nil)))))))))))), ?_⟩
    refine N.go (σ := [some (.str (tx a)), none, none, none, none, none, none]) ?_
    have hll : a.length ≤ 1000000 := by omega
    walk_at "w"
    by_cases h48 : a = [48]
    · rw [decide_eq_true h48]
      walk_at "w"
      exact fun r => NR.sub (q [] tr_nil (by decide) (by rw [h48]; rfl) r) (by walk_at "sub")
    rw [decide_eq_false h48]
    walk_at "w0"
    walk_at "d"
    obtain ⟨J, hJ⟩ : ∃ J, J = if a.take 1 = [45] then a.drop 1 else a := ⟨_, rfl⟩
    obtain ⟨s0, hs0⟩ : ∃ s0 : Int, s0 = if a.take 1 = [45] then -1 else 1 := ⟨_, rfl⟩
    have hJrn : Rn 640 J := by rw [hJ]; split; exact hrn.drop 1; exact hrn
    have hJl : J.length ≤ 90000 := by
      rw [hJ]
      split
      · rw [List.length_drop]; omega
      · exact hl
    have haJ : a = (if s0 < 0 then [45] else []) ++ J := by
      by_cases h : a.take 1 = [45]
      · rw [if_pos h] at hJ hs0
        rw [hs0, hJ, if_pos (by decide)]
        have := List.take_append_drop 1 a
        rw [h] at this
        exact this.symm
      · rw [if_neg h] at hJ hs0
        rw [hs0, hJ, if_neg (by decide)]; rfl
    have hs01 : s0 = 1 ∨ s0 = -1 := by rw [hs0]; split; exact .inr rfl; exact .inl rfl
    refine S.cut (fun σ f => σ = [some (.str (tx J)), some (.int s0), none, none, none, none, none] ∧ f = []) ?_ ?_
    · walk_at "w"
      refine RS.takeS (by decide) hll ?_
      walk_at "w"
      by_cases h : a.take 1 = [45]
      · have h1 : decide (List.take (Int.toNat 1) a = [45]) = true := decide_eq_true h
        rw [h1]
        rw [if_pos h] at hJ hs0
        walk_at "w"
        walk_at "d"
        walk_at "w"
        refine RS.dropS (i := 1) (by decide) hll ?_
        walk_at "d"
        walk_at "un"
        refine ⟨?_, rfl⟩
        rw [hJ, hs0]; rfl
      · have h1 : decide (List.take (Int.toNat 1) a = [45]) = false := decide_eq_false h
        rw [h1]
        rw [if_neg h] at hJ hs0
        walk_at "w"
        walk_at "un"
        refine ⟨?_, rfl⟩
        rw [hJ, hs0]
    rintro σ f ⟨rfl, rfl⟩
    walk_at "w"
    refine RM.splitL (by decide) (by omega) fun pw => ?_
    have hword : ∀ w ∈ TL.spl [32] 0 [] J, w.length ≤ 640 := fun w hw => hJrn.word hw
    have hjoin := join_spl 32 J []
    rw [List.nil_append] at hjoin
    have hWne := spl_ne 32 J []
    have hWl : (TL.spl [32] 0 [] J).length ≤ 90001 := Nat.le_trans (spl_len 32 J []) (by omega)
    generalize hW : TL.spl [32] 0 [] J = W at hword hjoin hWne hWl
    walk_at "d"
    walk_at "w"
    intro z
    walk_at "w"
    refine RW.rep (x := 0) (by walk_at "rx") (by decide) fun pr => ?_
    walk_at "d"
    walk_at "w"
    walk_at "d"
    refine N.sub [(pr, .lst (zV (List.replicate ((100 : Int)).toNat 0))), (pw, .lst (sV W))] (by walk_at "sub") ?_
    by_cases hwd : Wd a
    · obtain ⟨xs, hxt, hxl, hxw⟩ := hwd
      have hq := q xs hxt hxl hxw
      have hpow := tms_pow xs xs.length (Nat.le_refl _)
      have hdesc := tms_desc xs xs.length (Nat.le_refl _)
      have hfill := fill_trim hxt hxl
      have hne : tms xs xs.length ≠ [] := fun z => h48 (by rw [← hxw, wr_txt, z]; rfl)
      have htl := tms_len xs xs.length
      have hlen100 : (tms xs xs.length).length ≤ 100 := by omega
      have etx : a = hs (tms xs xs.length) ++ TL.joinL [32] (words (tms xs xs.length)) := by
        rw [← hxw, wr_txt]; unfold txt; rw [if_neg hne]
      generalize tms xs xs.length = ts at hpow hdesc hfill hne hlen100 etx
      obtain ⟨a0, ts', hts0⟩ : ∃ a r, ts = a :: r := by
        cases ts with
        | nil => exact absurd rfl hne
        | cons a r => exact ⟨a, r, rfl⟩
      have hwl := words_len hne
      have hsplit := words_split hne
      have key : J = TL.joinL [32] (words ts) ∧ s0 = sgi a0.1 := by
        obtain ⟨c, qq, hjc, hc48, hc45⟩ := join_head (r := ts') (hpow a0 (by rw [hts0]; exact List.mem_cons_self)).2.2.2
        rw [← hts0] at hjc
        have ehs : hs ts = if a0.1 < 0 then [45] else [] := by rw [hts0]; rfl
        rw [ehs] at etx
        unfold sgi
        by_cases hneg : a0.1 < 0
        · rw [if_pos hneg] at etx
          have ht1 : a.take 1 = [45] := by rw [etx]; rfl
          rw [if_pos ht1] at hJ hs0
          rw [if_pos hneg]
          exact ⟨by rw [hJ, etx]; rfl, hs0⟩
        · rw [if_neg hneg] at etx
          have ht1 : ¬ a.take 1 = [45] := by
            rw [etx, hjc]
            intro z
            exact hc45 (List.cons.inj (show c :: List.take 0 qq = [45] from z)).1
          rw [if_neg ht1] at hJ hs0
          rw [if_neg hneg]
          exact ⟨by rw [hJ, etx]; rfl, hs0⟩
      have hWw : W = words ts := by rw [← hW, key.1, hsplit]
      subst hWw
      have hts1 : ts[0]? = some a0 := by rw [hts0]; rfl
      refine S.forR (n := ((words ts).length : Int)) (fun k σ f => ∃ s last y5 y6, σ = [some (.str (tx J)), some (.int s), some (.ref pw), some (.ref pr), some (.int ((last : Nat) : Int)), y5, y6] ∧ f = [(pr, .lst (zV (fill (ts.take ((k + 1) / 2))))), (pw, .lst (sV (words ts)))] ∧ (k % 2 = 0 → ∀ a, ts[k / 2]? = some a → s = sgi a.1) ∧ (k = 0 → last = 100) ∧ (∀ i a, i + 1 = (k + 1) / 2 → ts[i]? = some a → last = a.2)) ?_ ?_ ?_
      · walk_at "w"
        rw [sV_length]
        refine ⟨rfl, by omega, by omega, s0, 100, none, none, rfl, rfl, fun _ a h => ?_, fun _ => rfl, fun i a h => by omega⟩
        rw [hts1] at h
        rw [← Option.some.inj h, key.2]
      · rintro k σ f hk ⟨s, last, y5, y6, rfl, rfl, hs1, hs2, hs3⟩
        walk_at "d"
        walk_at "w"
        have hkl : k < (words ts).length := by omega
        by_cases hk2 : k % 2 = 0
        · obtain ⟨i, rfl⟩ : ∃ i, k = 2 * i := ⟨k / 2, by omega⟩
          have hi : i < ts.length := by omega
          obtain ⟨a, ha⟩ : ∃ a, ts[i]? = some a := ⟨_, List.getElem?_eq_getElem hi⟩
          have ham := List.mem_of_getElem? ha
          obtain ⟨_, p1, p2, p3⟩ := hpow a ham
          have hsa := hs1 hk2 a (by rw [show 2 * i / 2 = i by omega]; exact ha)
          have hat := (words_at ts i a ha).1
          have hlast : a.2 < last := by
            cases i with
            | zero => rw [hs2 rfl]; omega
            | succ i =>
              obtain ⟨b, hb'⟩ : ∃ b, ts[i]? = some b := ⟨_, List.getElem?_eq_getElem (by omega)⟩
              rw [hs3 i b (by omega) hb']
              obtain ⟨h1, e1⟩ := List.getElem?_eq_some_iff.mp hb'
              obtain ⟨h2, e2⟩ := List.getElem?_eq_some_iff.mp ha
              rw [← e1, ← e2]
              exact List.pairwise_iff_getElem.mp hdesc i (i + 1) h1 h2 (by omega)
          rw [decide_eq_true (show ((2 * i : Nat) : Int) % 2 = 0 by omega)]
          walk_at "w"
          refine Pa.W.callB ?_
          walk_at "w"
          refine RW.ixL (by walk_at "rl") (atI_sV hat) ?_
          walk_at "w"
          refine WC_read_termX (hword _ (List.mem_of_getElem? hat)) (fun n p hn hp hnp r => ?_) (fun hno => absurd rfl (hno _ _ (Int.natAbs_pos.mpr p3) (by omega)))
          obtain ⟨en, ep⟩ := trm_inj hnp
          rw [← en, ← ep]
          walk_at "d"
          walk_at "w"
          rw [decide_eq_false (show ¬ (last : Int) ≤ (a.2 : Int) by omega)]
          walk_at "w"
          walk_at "d"
          refine S.setL ?_
          have hok : IntMulOk s (a.1.natAbs : Int) := by
            rw [hsa]
            unfold sgi
            split
            · exact mulL (by decide) (by decide)
            · exact mulL (by decide) (by decide)
          walk_at "w"
          walk_at "set1"
          · rw [zV_length, fill_len]; omega
          have e2 : (((a.2 : Nat) : Int)).toNat = a.2 := by simp
          rw [hsa, sgi_mul, e2, zV_set]
          walk_at "d"
          have ef : fill (ts.take ((2 * i + 1 + 1) / 2)) = (fill (ts.take i)).set a.2 a.1 := by
            rw [show (2 * i + 1 + 1) / 2 = i + 1 by omega, List.take_add_one, ha]
            exact fill_snoc _ _
          rw [show (2 * i + 1) / 2 = i by omega, ← ef]
          refine Lp.sub [(pr, .lst (zV (fill (ts.take ((2 * i + 1 + 1) / 2))))), (pw, .lst (sV (words ts)))] (by walk_at "sub") ?_
          refine ⟨_, a.2, _, _, rfl, rfl, fun h => by omega, fun h => by omega, fun i2 b h hb2 => ?_⟩
          have : i2 = i := by omega
          subst this
          rw [ha] at hb2
          rw [Option.some.inj hb2]
        · obtain ⟨i, rfl⟩ : ∃ i, k = 2 * i + 1 := ⟨k / 2, by omega⟩
          have hi : i + 1 < ts.length := by omega
          obtain ⟨a, ha⟩ : ∃ a, ts[i + 1]? = some a := ⟨_, List.getElem?_eq_getElem hi⟩
          have hat := (words_at ts (i + 1) a ha).2 (by omega)
          rw [show 2 * (i + 1) - 1 = 2 * i + 1 by omega] at hat
          rw [decide_eq_false (show ¬ ((2 * i + 1 : Nat) : Int) % 2 = 0 by omega)]
          have ej : (2 * i + 1 + 1 + 1) / 2 = (2 * i + 1 + 1) / 2 := by omega
          walk_at "w"
          refine RW.ixL (by walk_at "rl") (atI_sV hat) ?_
          walk_at "w"
          by_cases hneg : a.1 < 0
          · have es : sg a.1 = [45] := by unfold sg; rw [if_pos hneg]
            have es2 : sgi a.1 = -1 := by unfold sgi; rw [if_pos hneg]
            rw [es] at hat ⊢
            walk_at "w"
            refine RW.ixL (by walk_at "rl") (atI_sV hat) ?_
            walk_at "w"
            walk_at "d"
            walk_at "lp"
            refine ⟨_, last, _, _, rfl, by rw [ej], fun h b hb2 => ?_, fun h => by omega, fun i2 b h hb2 => hs3 i2 b (by omega) hb2⟩
            rw [show (2 * i + 1 + 1) / 2 = i + 1 by omega, ha] at hb2
            rw [← Option.some.inj hb2, es2]
          · have es : sg a.1 = [43] := by unfold sg; rw [if_neg hneg]
            have es2 : sgi a.1 = 1 := by unfold sgi; rw [if_neg hneg]
            rw [es] at hat ⊢
            walk_at "w"
            walk_at "d"
            walk_at "lp"
            refine ⟨_, last, _, _, rfl, by rw [ej], fun h b hb2 => ?_, fun h => by omega, fun i2 b h hb2 => hs3 i2 b (by omega) hb2⟩
            rw [show (2 * i + 1 + 1) / 2 = i + 1 by omega, ha] at hb2
            rw [← Option.some.inj hb2, es2]
      · rintro σ f ⟨s, last, y5, y6, rfl, rfl, hs1, hs2, hs3⟩
        have ek : (((words ts).length : Int)).toNat = (words ts).length := by simp
        rw [ek]
        have et : ts.take (((words ts).length + 1) / 2) = ts := by
          rw [hwl, show 2 * ts.length / 2 = ts.length by omega, List.take_length]
        rw [et]
        have hwl2 : (sV (words ts)).length = (words ts).length := sV_length _
        walk_at "w"
        rw [decide_eq_false (show ¬ ((sV (words ts)).length : Int) % 2 = 0 by omega)]
        walk_at "w"
        refine WC_trimmed (xs := fill ts) (by walk_at "rx") (by rw [fill_len]; omega) fun r => ?_
        rw [hfill]
        exact NR.sub (hq r) (by walk_at "sub")
    · have qe' := qe hwd
      refine S.forR (n := (W.length : Int)) (fun k σ f => ∃ ts s last y5 y6, σ = [some (.str (tx J)), some (.int s), some (.ref pw), some (.ref pr), some (.int ((last : Nat) : Int)), y5, y6] ∧ f = [(pr, .lst (zV (fill ts))), (pw, .lst (sV W))] ∧ VT ts ∧ (s = 1 ∨ s = -1) ∧ (k = 0 → ts = [] ∧ s = s0 ∧ last = 100) ∧ (0 < k → (∃ a0 r, ts = a0 :: r ∧ sgi a0.1 = s0) ∧ (∃ b c, ts = b ++ [c] ∧ last = c.2)) ∧ (k % 2 = 1 → W.take k = words ts) ∧ (k % 2 = 0 → 0 < k → W.take k = words ts ++ [if s = 1 then [43] else [45]])) ?_ ?_ ?_
      · walk_at "w"
        rw [sV_length]
        exact ⟨rfl, by omega, by omega, [], s0, 100, none, none, rfl, rfl, ⟨.nil, fun _ h => nomatch h⟩, hs01, fun _ => ⟨rfl, rfl, rfl⟩, fun h => absurd h (by decide), fun h => absurd h (by decide), fun _ h => absurd h (by decide)⟩
      · rintro k σ f hk ⟨ts, s, last, y5, y6, rfl, rfl, hvt, hs, h0, hk0, hodd, heven⟩
        walk_at "d"
        walk_at "w"
        have hkl : k < W.length := by omega
        obtain ⟨w, hw⟩ : ∃ w, W[k]? = some w := ⟨_, List.getElem?_eq_getElem hkl⟩
        by_cases hk2 : k % 2 = 0
        · rw [decide_eq_true (show ((k : Nat) : Int) % 2 = 0 by omega)]
          walk_at "w"
          refine Pa.W.callB ?_
          walk_at "w"
          refine RW.ixL (by walk_at "rl") (atI_sV hw) ?_
          walk_at "w"
          refine WC_read_termX (hword _ (List.mem_of_getElem? hw)) (fun n p hn hp hnp r => ?_) (fun hno => fun H' k => qe' H' (k.sub (by walk_at "sub")))
          walk_at "d"
          walk_at "w"
          by_cases hlp : last ≤ p
          · rw [decide_eq_true (show (last : Int) ≤ (p : Int) by omega)]
            walk_at "w"
            exact fun H' k => qe' H' (k.sub (by walk_at "sub"))
          · rw [decide_eq_false (show ¬ (last : Int) ≤ (p : Int) by omega)]
            walk_at "w"
            walk_at "d"
            refine S.setL ?_
            have hok : IntMulOk s (n : Int) := by
              rcases hs with rfl | rfl
              · exact mulL (by decide) (by decide)
              · exact mulL (by decide) (by decide)
            walk_at "w"
            walk_at "set1"
            · rw [zV_length, fill_len]; omega
            have e2 : (((p : Nat) : Int)).toNat = p := by simp
            rw [e2, zV_set]
            walk_at "d"
            have hsn0 : s * (n : Int) ≠ 0 := Int.mul_ne_zero (by rcases hs with rfl | rfl <;> decide) (by omega)
            have habs : (s * (n : Int)).natAbs = n := by rcases hs with rfl | rfl <;> omega
            have hsgi : sgi (s * (n : Int)) = s := by unfold sgi; rcases hs with rfl | rfl <;> split <;> omega
            have hsg : sg (s * (n : Int)) = if s = 1 then [43] else [45] := by
              unfold sg
              rcases hs with rfl | rfl
              · rw [if_neg (by omega), if_pos rfl]
              · rw [if_pos (by omega), if_neg (by decide)]
            have ef : fill (ts ++ [(s * (n : Int), p)]) = (fill ts).set p (s * (n : Int)) := fill_snoc _ _
            rw [← ef]
            have hvt' : VT (ts ++ [(s * (n : Int), p)]) := by
              refine hvt.snoc (fun b hb => ?_) hp hsn0
              by_cases hkz : k = 0
              · rw [(h0 hkz).1] at hb; exact absurd hb List.not_mem_nil
              · obtain ⟨_, b2, c2, e3, e4⟩ := hk0 (by omega)
                have := hvt.ge_last e3 b hb
                show p < b.2
                omega
            have htk : W.take (k + 1) = words (ts ++ [(s * (n : Int), p)]) := by
              rw [take_snoc' hw, hnp]
              by_cases hkz : k = 0
              · subst hkz
                rw [(h0 rfl).1]
                show [] ++ [trm n p] = [trm (s * (n : Int)).natAbs p]
                rw [habs]; rfl
              · obtain ⟨⟨a0, r, e5, _⟩, _⟩ := hk0 (by omega)
                rw [heven hk2 (by omega), e5, words_snoc]
                show _ = words (a0 :: r) ++ [sg (s * (n : Int)), trm (s * (n : Int)).natAbs p]
                rw [habs, hsg, List.append_assoc]; rfl
            have hhead : ∃ a0 r, ts ++ [(s * (n : Int), p)] = a0 :: r ∧ sgi a0.1 = s0 := by
              by_cases hkz : k = 0
              · obtain ⟨e5, e6, _⟩ := h0 hkz
                rw [e5]
                exact ⟨_, _, rfl, by rw [← e6]; exact hsgi⟩
              · obtain ⟨⟨a0, r, e5, e6⟩, _⟩ := hk0 (by omega)
                exact ⟨a0, r ++ [(s * (n : Int), p)], by rw [e5]; rfl, e6⟩
            refine Lp.sub [(pr, .lst (zV (fill (ts ++ [(s * (n : Int), p)])))), (pw, .lst (sV W))] (by walk_at "sub") ?_
            exact ⟨_, s, p, _, _, rfl, rfl, hvt', hs, fun h => by omega, fun _ => ⟨hhead, ts, _, rfl, rfl⟩, fun _ => htk, fun h => by omega⟩
        · rw [decide_eq_false (show ¬ ((k : Nat) : Int) % 2 = 0 by omega)]
          have hk0' := hk0 (by omega)
          walk_at "w"
          refine RW.ixL (by walk_at "rl") (atI_sV hw) ?_
          walk_at "w"
          by_cases h43 : w = [43]
          · subst h43
            walk_at "w"
            walk_at "d"
            walk_at "lp"
            refine ⟨ts, 1, last, _, _, rfl, rfl, hvt, .inl rfl, fun h => by omega, fun _ => hk0', fun h => by omega, fun _ _ => ?_⟩
            rw [take_snoc' hw, hodd (by omega), if_pos rfl]
          · rw [decide_eq_false h43]
            walk_at "w"
            refine RW.ixL (by walk_at "rl") (atI_sV hw) ?_
            walk_at "w"
            by_cases h45 : w = [45]
            · subst h45
              walk_at "w"
              walk_at "d"
              walk_at "lp"
              refine ⟨ts, -1, last, _, _, rfl, rfl, hvt, .inr rfl, fun h => by omega, fun _ => hk0', fun h => by omega, fun _ _ => ?_⟩
              rw [take_snoc' hw, hodd (by omega), if_neg (by decide)]
            · rw [decide_eq_false h45]
              walk_at "w"
              exact fun H' k => qe' H' (k.sub (by walk_at "sub"))
      · rintro σ f ⟨ts, s, last, y5, y6, rfl, rfl, hvt, hs, h0, hk0, hodd, heven⟩
        have ek : ((W.length : Int)).toNat = W.length := by simp
        rw [ek] at hk0 hodd
        have hwl2 : (sV W).length = W.length := sV_length _
        have hWpos : 0 < W.length := List.length_pos_iff.mpr hWne
        walk_at "w"
        by_cases hp : W.length % 2 = 0
        · rw [decide_eq_true (show ((sV W).length : Int) % 2 = 0 by omega)]
          walk_at "w"
          exact fun H' k => qe' H' (k.sub (by walk_at "sub"))
        · refine absurd ?_ hwd
          have e1 := hodd (by omega)
          rw [List.take_length] at e1
          obtain ⟨⟨a0, r, e5, e6⟩, _⟩ := hk0 hWpos
          have e7 : a = txt ts := by
            unfold txt
            rw [if_neg (by rw [e5]; exact List.cons_ne_nil _ _), ← e1, hjoin, haJ, e5]
            show _ = (if a0.1 < 0 then [45] else []) ++ J
            rw [← e6]
            unfold sgi
            by_cases hn : a0.1 < 0
            · rw [if_pos hn, if_pos hn, if_pos (by decide)]
            · rw [if_neg hn, if_neg hn, if_neg (by decide)]
          rw [e7]
          exact Wd.of hvt

end

section
variable {P : Program} {w : World} {K : PySem.W.Frag} {mg : Str → Option Value} {base : Heap}
/-- on ints -/
def sp__law_whole : Sp := fun vs H Q _ => ∃ (i : Int), vs = [.int i] ∧ NR Q (.bl true) H []
theorem WC__law_whole {H0 : Hp} {fs : Fs} {Φ : CV} {i : Int} (q : Φ (.bl true) fs) : WC sp__law_whole [.int i] H0 fs Φ := fun H k Q E c => ⟨i, rfl, fun H' k' => c _ _ _ (k.app k') q⟩
theorem ok__law_whole (T : Txt K mg) : FnOk P w K mg base CX0 1 T.a__law_whole T.d__law_whole ["_law_found"] sp__law_whole := by
  refine T.F__law_whole.ok sc__law_whole (fun vs H Q E h => ?_) (fun cdv A outer s H vs Q E hr h => ?_)
  · obtain ⟨i, rfl, _⟩ := h; rfl
  · obtain ⟨i, rfl, q⟩ := h
    refine ⟨_, (pss_one (ps_ret (pe_and (pe_callB call_isi (by rfl) T.z_isinstance (by decide +kernel) (pa_cons (pv 0) (pa_cons (pe_bltn (v := .ty "int") (by rfl) T.z_int (by decide +kernel) rfl) pa_nil))) (pe_one (pe_not (pe_callB call_isi (by rfl) T.z_isinstance (by decide +kernel) (pa_cons (pv 0) (pa_cons (pe_bltn (v := .ty "bool") (by rfl) T.z_bool (by decide +kernel) rfl) pa_nil)))))))), ?_⟩
    refine N.go (σ := [some (.int i)]) ?_
    walk_at "w"
    walk_at "fin"

end

section
variable {P : Program} {w : World} {K : PySem.W.Frag} {mg : Str → Option Value} {base : Heap}
def sp__law_cell_at (K : PySem.W.Frag) : Sp := fun vs H Q _ => ∃ (a : Addr) (ns : List Int) (i : Int), vs = [.ref a, .int i] ∧ SqL K H a (zV ns) ∧ 0 ≤ i ∧ NR Q (.int (gat ns i)) H []
theorem WC__law_cell_at {K : PySem.W.Frag} {H0 : Hp} {fs : Fs} {Φ : CV} {a : Addr} {ns : List Int} {i : Int} (h : Rl K H0 fs a (zV ns)) (hi : 0 ≤ i) (q : Φ (.int (gat ns i)) fs) : WC (sp__law_cell_at K) [.ref a, .int i] H0 fs Φ :=
  fun H k Q E c => ⟨a, ns, i, rfl, h H k, hi, fun H' k' => c _ _ _ (k.app k') q⟩
theorem ok__law_cell_at (T : Txt K mg) : FnOk P w K mg base CX0 1 T.a__law_cell_at T.d__law_cell_at ["_law_script", "_law_k"] (sp__law_cell_at K) := by
  refine T.F__law_cell_at.ok sc__law_cell_at (fun vs H Q E h => ?_) (fun cdv A outer s H vs Q E hr h => ?_)
  · obtain ⟨a, ns, i, rfl, _⟩ := h; rfl
  · obtain ⟨a, ns, i, rfl, hS, h0, q⟩ := h
    refine ⟨_, (pss_cons (ps_if (pt_cmpR op_lt (pv 1) (pe_callB cLen (by rfl) T.z_len PySem.boot_len (pa_cons (pv 0) pa_nil)) (nomark _)) (pss_one (ps_ret (pe_ix ix_list (pv 0) (pv 1) (fun _ _ => rfl)))) pss_nil)
      (pss_one (ps_ret pe_int))), ?_⟩
    refine N.go (σ := [some (.ref a), some (.int i)]) ?_
    walk_at "w"
    walk_at "if"
    · walk_at "w"
      walk_at "fin"
    · walk_at "w"
      have e : gat ns i = 0 := by
        unfold gat
        rw [List.getD_eq_getElem?_getD, List.getElem?_eq_none (by omega)]; rfl
      rw [e] at q
      walk_at "fin"

end

section
variable {P : Program} {w : World} {K : PySem.W.Frag} {mg : Str → Option Value} {base : Heap}
def sp__law_trim : Sp := fun vs H Q _ => ∃ (a : Addr) (xs : List Int), vs = [.ref a] ∧ H a = some (.lst (zV xs)) ∧ xs.length ≤ 100000 ∧ ∀ p, NR Q (.ref p) H [(p, .lst (zV (trim xs)))]
theorem WC__law_trim {H0 : Hp} {fs : Fs} {Φ : CV} {a : Addr} {xs : List Int} (h : Rx H0 fs a (.lst (zV xs))) (hl : xs.length ≤ 100000) (q : ∀ p, Φ (.ref p) ((p, .lst (zV (trim xs))) :: fs)) : WC sp__law_trim [.ref a] H0 fs Φ :=
  fun H k Q E c => ⟨a, xs, rfl, h H k, hl, fun p H' k' => c _ _ _ (k.app k') (q p)⟩
theorem ok__law_trim (T : Txt K mg) : FnOk P w K mg base CX0 1 T.a__law_trim T.d__law_trim ["_law_row"] sp__law_trim := by
  refine T.F__law_trim.ok sc__law_trim (fun vs H Q E h => ?_) (fun cdv A outer s H vs Q E hr h => ?_)
  · obtain ⟨a, xs, rfl, _⟩ := h; rfl
  · obtain ⟨a, xs, rfl, hA, hl, q⟩ := h
    refine ⟨_, (pss_cons (ps_set (i := 1) sc__law_trim.nd rfl (Or.inl rfl) (pe_callB cLen (by rfl) T.z_len PySem.boot_len (pa_cons (pv 0) pa_nil)))
      (pss_cons (ps_while PassesOwn.never (PW.pt (pw_and (pt_cmpR op_gt (pv 1) pe_int (nomark _)) (pw_and1 (pt_cmpR op_eq (pe_ix ix_list (pv 0) (pe_op op_sub (pv 1) pe_int) (fun _ _ => rfl)) pe_int (nomark _))))) (pss_one (ps_set (i := 1) sc__law_trim.nd rfl (Or.inl rfl) (pe_op op_sub (pv 1) pe_int))))
      (pss_one (ps_ret (pe_slice sl_list (pv 0) po_none (po_some (pv 1))))))), ?_⟩
    refine N.go (σ := [some (.ref a), none]) ?_
    walk_at "w"
    refine S.while_ (fun m σ f => σ = [some (.ref a), some (.int (m : Int))] ∧ f = [] ∧ m ≤ xs.length ∧ trim xs = trim (xs.take m)) xs.length ⟨rfl, rfl, Nat.le_refl _, by rw [List.take_length]⟩ ?_
    rintro m σ f ⟨rfl, rfl, hm, ht⟩
    walk_at "w"
    walk_at "if"
    · walk_at "w"
      walk_at "if"
      · -- one nought less
        walk_at "w"
        rename_i h1 h2
        have em : ((m : Int) - 1) = ((m - 1 : Nat) : Int) := by omega
        rw [em]
        refine Wl.nx (m' := m - 1) (by omega) ⟨rfl, rfl, by omega, ?_⟩
        rw [ht]
        have e2 : m = (m - 1) + 1 := by omega
        rw [em, gat_nat] at h2
        rw [e2, take_succ_getD (by omega : m - 1 < xs.length), h2, trim_zero]
        rfl
      · walk_at "w"
        rename_i h1 h2
        intro l
        have em : ((m : Int) - 1) = ((m - 1 : Nat) : Int) := by omega
        have e2 : m = (m - 1) + 1 := by omega
        rw [em, gat_nat] at h2
        have e3 : trim xs = xs.take m := by
          rw [ht, e2, take_succ_getD (by omega : m - 1 < xs.length), trim_last _ h2]
        rw [e3] at q
        have e4 : ((m : Int)).toNat = m := by simp
        rw [e4]
        exact NR.sub (q l) (by walk_at "sub")
    · walk_at "w"
      rename_i h1
      intro l
      have e0 : m = 0 := by omega
      subst e0
      have e3 : trim xs = [] := by rw [ht]; rfl
      rw [e3] at q
      exact NR.sub (q l) (by walk_at "sub")

end

section
variable {P : Program} {w : World} {K : PySem.W.Frag} {mg : Str → Option Value} {base : Heap}
/-- the same numbers -/
def sp__law_same : Sp := fun vs H Q _ => ∃ (a b : Addr) (xs : List Int), vs = [.ref a, .ref b] ∧ H a = some (.lst (zV xs)) ∧ H b = some (.lst (zV xs)) ∧ xs.length ≤ 100000 ∧ NR Q (.bl true) H []
theorem WC__law_same {H0 : Hp} {fs : Fs} {Φ : CV} {a b : Addr} {xs : List Int} (h : Rx H0 fs a (.lst (zV xs))) (h2 : Rx H0 fs b (.lst (zV xs))) (hl : xs.length ≤ 100000) (q : Φ (.bl true) fs) : WC sp__law_same [.ref a, .ref b] H0 fs Φ :=
  fun H k Q E c => ⟨a, b, xs, rfl, h H k, h2 H k, hl, fun H' k' => c _ _ _ (k.app k') q⟩
theorem ok__law_same (T : Txt K mg) : FnOk P w K mg base CX0 2 T.a__law_same T.d__law_same ["_law_found", "_law_due_here"] sp__law_same := by
  refine T.F__law_same.ok sc__law_same (fun vs H Q E h => ?_) (fun cdv A outer s H vs Q E hr h => ?_)
  · obtain ⟨a, b, xs, rfl, _⟩ := h; rfl
  · obtain ⟨a, b, xs, rfl, hA, hB, hl, q⟩ := h
    refine ⟨_, (pss_cons (ps_if (PW.pt (pw_or (pt_not (pt_val (pe_callB call_isi (by rfl) T.z_isinstance (by decide +kernel) (pa_cons (pv 0) (pa_cons (pe_bltn (v := .ty "list") (by rfl) T.z_list (by decide +kernel) rfl) pa_nil))))) (pw_or1 (pt_cmpR op_ne (pe_callB cLen (by rfl) T.z_len PySem.boot_len (pa_cons (pv 0) pa_nil)) (pe_callB cLen (by rfl) T.z_len PySem.boot_len (pa_cons (pv 1) pa_nil)) (nomark _))))) (pss_one (ps_ret pe_bl)) pss_nil)
      (pss_cons (ps_for PassesOwn.never rfl (pi_range1 rfl T.z_range (pa_cons (pe_callB cLen (by rfl) T.z_len PySem.boot_len (pa_cons (pv 1) pa_nil)) pa_nil)) (pg_name (i := 2) sc__law_same.nd rfl (Or.inl rfl)) (pss_one (ps_if (PW.pt (pw_or (pt_not (pt_val (pe_call (ok__law_whole T) (hr.mono (by decide)) (by rfl) T.m__law_whole T.F__law_whole.kp T.b__law_whole .nil pass0 (pa_cons (pe_ix ix_list (pv 0) (pv 2) (fun _ _ => rfl)) pa_nil)))) (pw_or1 (pt_cmpR op_ne (pe_ix ix_list (pv 0) (pv 2) (fun _ _ => rfl)) (pe_ix ix_list (pv 1) (pv 2) (fun _ _ => rfl)) (nomark _))))) (pss_one (ps_ret pe_bl)) pss_nil)))
      (pss_one (ps_ret pe_bl)))), ?_⟩
    refine N.go (σ := [some (.ref a), some (.ref b), none]) ?_
    walk_at "w"
    walk_at "if"
    walk_at "w"
    refine S.forR (n := (xs.length : Int)) (fun i σ f => (∃ y, σ = [some (.ref a), some (.ref b), y]) ∧ f = []) ?_ ?_ ?_
    · walk_at "w"
      exact ⟨rfl, by omega, by omega, ⟨_, rfl⟩, rfl⟩
    · rintro i σ f hi ⟨⟨y, rfl⟩, rfl⟩
      walk_at "d"
      walk_at "w"
      refine WC__law_whole ?_
      walk_at "w"
      walk_at "if"
      walk_at "w"
      walk_at "lp"
      exact ⟨⟨_, rfl⟩, rfl⟩
    · rintro σ f ⟨⟨y, rfl⟩, rfl⟩
      walk_at "w"
      walk_at "fin"

end

section
variable {P : Program} {w : World} {K : PySem.W.Frag} {mg : Str → Option Value} {base : Heap}
/-- a number drawn from a cell -/
def num__law_number (c : Int) : Int := if c % 7 = 0 then 0 else if c % 7 = 1 then (1 - c / 7 % 2 * 2) * (c / 14 % 10 ^ 59) else if c % 7 < 4 then c / 7 % 3 - 1 else c / 7 % 19 - 9
theorem num__law_number_lt (c : Int) : (num__law_number c).natAbs < 10 ^ 59 := by
  unfold num__law_number
  have h1 : 0 ≤ c / 14 % 10 ^ 59 := Int.emod_nonneg _ (by decide)
  have h2 : c / 14 % 10 ^ 59 < 10 ^ 59 := Int.emod_lt_of_pos _ (by decide)
  have h3 : c / 7 % 2 = 0 ∨ c / 7 % 2 = 1 := by omega
  have e : (10 : Int) ^ 59 = 100000000000000000000000000000000000000000000000000000000000 := by decide
  have e2 : (10 : Nat) ^ 59 = 100000000000000000000000000000000000000000000000000000000000 := by decide
  rw [e2]
  rw [e] at h1 h2 ⊢
  split
  · decide
  · split
    · rcases h3 with h3 | h3 <;> rw [h3] <;> omega
    · split <;> omega
theorem num__law_number_bd (c : Int) : Bd 210 (num__law_number c) := Nat.lt_trans (num__law_number_lt c) (by decide)
def sp__law_number : Sp := fun vs H Q _ => ∃ (c : Int), vs = [.int c] ∧ NR Q (.int (num__law_number c)) H []
theorem WC__law_number {H0 : Hp} {fs : Fs} {Φ : CV} {c : Int} (q : Φ (.int (num__law_number c)) fs) : WC sp__law_number [.int c] H0 fs Φ := fun H k Q E cc => ⟨c, rfl, fun H' k' => cc _ _ _ (k.app k') q⟩
theorem ok__law_number (T : Txt K mg) : FnOk P w K mg base CX0 1 T.a__law_number T.d__law_number ["_law_cell"] sp__law_number := by
  refine T.F__law_number.ok sc__law_number (fun vs H Q E h => ?_) (fun cdv A outer s H vs Q E hr h => ?_)
  · obtain ⟨c, rfl, _⟩ := h; rfl
  · obtain ⟨c, rfl, q⟩ := h
    refine ⟨_, (pss_cons (ps_if (pt_cmpR op_eq (pe_op op_mod (pv 0) pe_int) pe_int (nomark _)) (pss_one (ps_ret pe_int)) pss_nil)
      (pss_cons (ps_if (pt_cmpR op_eq (pe_op op_mod (pv 0) pe_int) pe_int (nomark _)) (pss_one (ps_ret (pe_op op_mulG (pe_op op_sub pe_int (pe_op op_mulG (pe_op op_mod (pe_op op_fdiv (pv 0) pe_int) pe_int) pe_int)) (pe_op op_mod (pe_op op_fdiv (pv 0) pe_int) (pe_op op_pow pe_int pe_int))))) pss_nil)
      (pss_cons (ps_if (pt_cmpR op_lt (pe_op op_mod (pv 0) pe_int) pe_int (nomark _)) (pss_one (ps_ret (pe_op op_sub (pe_op op_mod (pe_op op_fdiv (pv 0) pe_int) pe_int) pe_int))) pss_nil)
      (pss_one (ps_ret (pe_op op_sub (pe_op op_mod (pe_op op_fdiv (pv 0) pe_int) pe_int) pe_int)))))), ?_⟩
    refine N.go (σ := [some (.int c)]) ?_
    unfold num__law_number at q
    walk_at "w"
    walk_at "if"
    · rename_i h1
      rw [if_pos h1] at q
      walk_at "w"
      walk_at "fin"
    · rename_i h1
      rw [if_neg h1] at q
      walk_at "w"
      walk_at "if"
      · rename_i h2
        rw [if_pos h2] at q
        walk_at "w"
        walk_at "fin"
      · rename_i h2
        rw [if_neg h2] at q
        walk_at "w"
        walk_at "if"
        · rename_i h3
          rw [if_pos h3] at q
          walk_at "w"
          walk_at "fin"
        · rename_i h3
          rw [if_neg h3] at q
          walk_at "w"
          walk_at "fin"

end

section
variable {P : Program} {w : World} {K : PySem.W.Frag} {mg : Str → Option Value} {base : Heap}
/-- a drawn row -/
def drawn (ns : List Int) (place size many : Int) : List Int :=
  trim (if 0 < many then (List.range many.toNat).map (fun (k : Nat) => num__law_number (gat ns place + 97 * (k : Int) * (k : Int) + 13 * (k : Int)))
    else (List.range size.toNat).map (fun (k : Nat) => num__law_number (gat ns (place + (k : Int)))))
theorem drawn_len (ns : List Int) {place size many : Int} (h1 : size ≤ 100) (h2 : many ≤ 101) : (drawn ns place size many).length ≤ 101 := by
  unfold drawn
  refine Nat.le_trans (trim_length_le _) ?_
  split <;> (simp; omega)
theorem drawn_len2 (ns : List Int) {place size many : Int} {n : Nat} (h1 : size ≤ n) (h2 : many ≤ n) : (drawn ns place size many).length ≤ n := by
  unfold drawn
  refine Nat.le_trans (trim_length_le _) ?_
  split <;> (simp; omega)
theorem drawn_tr (ns : List Int) (place size many : Int) : Tr (drawn ns place size many) := tr_trim _
theorem drawn_bd (ns : List Int) (place size many : Int) : BdL 210 (drawn ns place size many) := by
  refine BdL.trim fun x hx => ?_
  split at hx
  · obtain ⟨k, _, rfl⟩ := List.mem_map.mp hx
    exact num__law_number_bd _
  · obtain ⟨k, _, rfl⟩ := List.mem_map.mp hx
    exact num__law_number_bd _
def sp__law_drawn (K : PySem.W.Frag) : Sp := fun vs H Q _ => ∃ (a : Addr) (ns : List Int) (place size many : Int), vs = [.ref a, .int place, .int size, .int many] ∧ SqL K H a (zV ns) ∧ 0 ≤ place ∧ (0 ≤ size ∧ size ≤ 1000) ∧ (0 ≤ many ∧ many ≤ 1000) ∧
  ∀ p, NR Q (.ref p) H [(p, .lst (zV (drawn ns place size many)))]
theorem WC__law_drawn {K : PySem.W.Frag} {H0 : Hp} {fs : Fs} {Φ : CV} {a : Addr} {ns : List Int} {place size many : Int} (h : Rl K H0 fs a (zV ns)) (hi : 0 ≤ place) (hs : 0 ≤ size ∧ size ≤ 1000) (hm : 0 ≤ many ∧ many ≤ 1000)
    (q : ∀ p, Φ (.ref p) ((p, .lst (zV (drawn ns place size many))) :: fs)) : WC (sp__law_drawn K) [.ref a, .int place, .int size, .int many] H0 fs Φ :=
  fun H k Q E c => ⟨a, ns, place, size, many, rfl, h H k, hi, hs, hm, fun p H' k' => c _ _ _ (k.app k') (q p)⟩
theorem ok__law_drawn (T : Txt K mg) : FnOk P w K mg base CX0 2 T.a__law_drawn T.d__law_drawn ["_law_script", "_law_place", "_law_size", "_law_many"] (sp__law_drawn K) := by
  refine T.F__law_drawn.ok sc__law_drawn (fun vs H Q E h => ?_) (fun cdv A outer s H vs Q E hr h => ?_)
  · obtain ⟨a, ns, place, size, many, rfl, _⟩ := h; rfl
  · obtain ⟨a, ns, place, size, many, rfl, hA, h0, hs, hm, q⟩ := h
    refine ⟨_, (pss_cons (ps_setLc (i := 4) (own := [("_law_k", 5)]) (g := gName 5) (tt := tYes) rfl sc__law_drawn.nd rfl rfl (sw_true rfl rfl rfl (by decide +kernel)) (pi_range1 rfl T.z_range (pa_cons (pv 2) pa_nil)) (blkOk_by (own := [("_law_k", 5)]) (N := ["_law_script", "_law_place", "_law_size", "_law_many", "_law_row", "_law_k"]) (sc := defScope s__law_drawn) (by decide +kernel)) (fun _ _ _ _ _ => pg_name (i := 5) sc__law_drawn.nd rfl (Or.inl rfl)) (fun _ _ _ _ _ => pts_nil) (fun _ _ _ _ _ => (pe_call (ok__law_number T) (hr.mono (by decide)) (by rfl) T.m__law_number T.F__law_number.kp T.b__law_number .nil pass0 (pa_cons (pe_call (ok__law_cell_at T) (hr.mono (by decide)) (by rfl) T.m__law_cell_at T.F__law_cell_at.kp T.b__law_cell_at .nil pass0 (pa_cons (pv 0) (pa_cons (pe_op op_add (pv 1) (pv 5)) pa_nil))) pa_nil))))
      (pss_cons (ps_if (pt_cmpR op_gt (pv 3) pe_int (nomark _)) (pss_one (ps_setLc (i := 4) (own := [("_law_k", 5)]) (g := gName 5) (tt := tYes) rfl sc__law_drawn.nd rfl rfl (sw_true rfl rfl rfl (by decide +kernel)) (pi_range1 rfl T.z_range (pa_cons (pv 3) pa_nil)) (blkOk_by (own := [("_law_k", 5)]) (N := ["_law_script", "_law_place", "_law_size", "_law_many", "_law_row", "_law_k"]) (sc := defScope s__law_drawn) (by decide +kernel)) (fun _ _ _ _ _ => pg_name (i := 5) sc__law_drawn.nd rfl (Or.inl rfl)) (fun _ _ _ _ _ => pts_nil) (fun _ _ _ _ _ => (pe_call (ok__law_number T) (hr.mono (by decide)) (by rfl) T.m__law_number T.F__law_number.kp T.b__law_number .nil pass0 (pa_cons (pe_op op_add (pe_op op_add (pe_call (ok__law_cell_at T) (hr.mono (by decide)) (by rfl) T.m__law_cell_at T.F__law_cell_at.kp T.b__law_cell_at .nil pass0 (pa_cons (pv 0) (pa_cons (pv 1) pa_nil))) (pe_op op_mulG (pe_op op_mulG pe_int (pv 5)) (pv 5))) (pe_op op_mulG pe_int (pv 5))) pa_nil))))) pss_nil)
      (pss_one (ps_ret (pe_call (ok__law_trim T) (hr.mono (by decide)) (by rfl) T.m__law_trim T.F__law_trim.kp T.b__law_trim .nil pass0 (pa_cons (pv 4) pa_nil)))))), ?_⟩
    refine N.go (σ := [some (.ref a), some (.int place), some (.int size), some (.int many), none, none]) ?_
    walk_at "w"
    refine W.lcRz (n := size) (fun (k : Nat) => num__law_number (gat ns (place + (k : Int)))) ?_
    walk_at "w"
    refine ⟨rfl, by omega, by omega, fun _ => rfl, fun i D acc hi => ?_, fun D => ?_⟩
    · walk_at "d"
      walk_at "w"
      refine WC__law_cell_at (ns := ns) (by walk_at "rl") (by omega) ?_
      walk_at "w"
      refine WC__law_number ?_
      exact ⟨rfl, by walk_at "sub"⟩
    · walk_at "d"
      walk_at "w"
      walk_at "if"
      · walk_at "w"
        rename_i hpos
        refine W.lcRz (n := many) (fun (k : Nat) => num__law_number (gat ns place + 97 * (k : Int) * (k : Int) + 13 * (k : Int))) ?_
        walk_at "w"
        refine ⟨rfl, by omega, by omega, fun _ => rfl, fun i D acc hi => ?_, fun D => ?_⟩
        · walk_at "d"
          walk_at "w"
          refine WC__law_cell_at (ns := ns) (by walk_at "rl") (by omega) ?_
          walk_at "w"
          refine WC__law_number ?_
          exact ⟨rfl, by walk_at "sub"⟩
        · walk_at "d"
          walk_at "w"
          refine WC__law_trim (by walk_at "rx") (by simp; omega) fun p => ?_
          unfold drawn at q
          rw [if_pos hpos] at q
          exact NR.sub (q p) (by walk_at "sub")
      · walk_at "w"
        rename_i hpos
        refine WC__law_trim (by walk_at "rx") (by simp; omega) fun p => ?_
        unfold drawn at q
        rw [if_neg hpos] at q
        exact NR.sub (q p) (by walk_at "sub")

end

section
variable {P : Program} {w : World} {K : PySem.W.Frag} {mg : Str → Option Value} {base : Heap}
def sp__law_written : Sp := fun vs H Q _ => ∃ (a : Addr) (xs : List Int), vs = [.ref a] ∧ H a = some (.lst (zV xs)) ∧ xs.length ≤ 900 ∧ BdL 210 xs ∧ NR Q (.str (tx (wr xs))) H []
theorem WC__law_written {H0 : Hp} {fs : Fs} {Φ : CV} {a : Addr} {xs : List Int} (h : Rx H0 fs a (.lst (zV xs))) (hl : xs.length ≤ 900) (hb : BdL 210 xs) (q : Φ (.str (tx (wr xs))) fs) : WC sp__law_written [.ref a] H0 fs Φ := fun H k Q E cc => ⟨a, xs, rfl, h H k, hl, hb, fun H' k' => cc _ _ _ (k.app k') q⟩
theorem num_log' {p : Nat} (h : p < 2 ^ 210) : p.log2 < 1920 := by
  by_cases h0 : p = 0
  · subst h0; decide
  · have := (Nat.log2_lt h0).mpr h
    omega
theorem ok__law_written (T : Txt K mg) : FnOk P w K mg base CX0 1 T.a__law_written T.d__law_written ["_law_row"] sp__law_written := by
  refine T.F__law_written.ok sc__law_written (fun vs H Q E h => ?_) (fun cdv A outer s H vs Q E hr h => ?_)
  · obtain ⟨a, xs, rfl, _⟩ := h; rfl
  · obtain ⟨a, xs, rfl, hA, hl, hb, q⟩ := h
    refine ⟨_, (pss_cons (ps_set (i := 1) sc__law_written.nd rfl (Or.inl rfl) (pe_strL (l := []) (by decide +kernel)))
      (pss_cons (ps_for PassesOwn.never rfl (pi_range1 rfl T.z_range (pa_cons (pe_callB cLen (by rfl) T.z_len PySem.boot_len (pa_cons (pv 0) pa_nil)) pa_nil)) (pg_name (i := 2) sc__law_written.nd rfl (Or.inl rfl)) (pss_cons (ps_set (i := 3) sc__law_written.nd rfl (Or.inl rfl) (pe_op op_sub (pe_op op_sub (pe_callB cLen (by rfl) T.z_len PySem.boot_len (pa_cons (pv 0) pa_nil)) pe_int) (pv 2)))
      (pss_one (ps_if (pt_cmpR op_ne (pe_ix ix_list (pv 0) (pv 3) (fun _ _ => rfl)) pe_int (nomark _)) (pss_cons (ps_set (i := 4) sc__law_written.nd rfl (Or.inl rfl) (pe_callTy cStr (by rfl) T.z_str (by decide +kernel) (pa_cons (pe_callB cAbs (by rfl) T.z_abs (by decide +kernel) (pa_cons (pe_ix ix_list (pv 0) (pv 3) (fun _ _ => rfl)) pa_nil)) pa_nil)))
      (pss_cons (ps_if (PW.pt (pw_and (pt_cmpR op_gt (pv 3) pe_int (nomark _)) (pw_and1 (pt_cmpR op_eq (pv 4) (pe_strL (l := [49]) (by decide +kernel)) (nomark _))))) (pss_one (ps_set (i := 4) sc__law_written.nd rfl (Or.inl rfl) (pe_strL (l := []) (by decide +kernel)))) pss_nil)
      (pss_cons (ps_if (pt_cmpR op_eq (pv 3) pe_int (nomark _)) (pss_one (ps_set (i := 4) sc__law_written.nd rfl (Or.inl rfl) (pe_op op_addX (pv 4) (pe_strL (l := [120]) (by decide +kernel))))) pss_nil)
      (pss_cons (ps_if (pt_cmpR op_gt (pv 3) pe_int (nomark _)) (pss_one (ps_set (i := 4) sc__law_written.nd rfl (Or.inl rfl) (pe_op op_addX (pe_op op_addX (pv 4) (pe_strL (l := [120, 94]) (by decide +kernel))) (pe_callTy cStr (by rfl) T.z_str (by decide +kernel) (pa_cons (pv 3) pa_nil))))) pss_nil)
      (pss_cons (ps_if (PW.pt (pw_and (pt_cmpR op_ne (pv 1) (pe_strL (l := []) (by decide +kernel)) (nomark _)) (pw_and1 (pt_cmpR op_gt (pe_ix ix_list (pv 0) (pv 3) (fun _ _ => rfl)) pe_int (nomark _))))) (pss_one (ps_set (i := 4) sc__law_written.nd rfl (Or.inl rfl) (pe_op op_addX (pe_strL (l := [32, 43, 32]) (by decide +kernel)) (pv 4)))) pss_nil)
      (pss_cons (ps_if (PW.pt (pw_and (pt_cmpR op_ne (pv 1) (pe_strL (l := []) (by decide +kernel)) (nomark _)) (pw_and1 (pt_cmpR op_lt (pe_ix ix_list (pv 0) (pv 3) (fun _ _ => rfl)) pe_int (nomark _))))) (pss_one (ps_set (i := 4) sc__law_written.nd rfl (Or.inl rfl) (pe_op op_addX (pe_strL (l := [32, 45, 32]) (by decide +kernel)) (pv 4)))) pss_nil)
      (pss_cons (ps_if (PW.pt (pw_and (pt_cmpR op_eq (pv 1) (pe_strL (l := []) (by decide +kernel)) (nomark _)) (pw_and1 (pt_cmpR op_lt (pe_ix ix_list (pv 0) (pv 3) (fun _ _ => rfl)) pe_int (nomark _))))) (pss_one (ps_set (i := 4) sc__law_written.nd rfl (Or.inl rfl) (pe_op op_addX (pe_strL (l := [45]) (by decide +kernel)) (pv 4)))) pss_nil)
      (pss_one (ps_set (i := 1) sc__law_written.nd rfl (Or.inl rfl) (pe_op op_addX (pv 1) (pv 4))))))))))) pss_nil))))
      (pss_cons (ps_if (pt_cmpR op_eq (pv 1) (pe_strL (l := []) (by decide +kernel)) (nomark _)) (pss_one (ps_ret (pe_strL (l := [48]) (by decide +kernel)))) pss_nil)
      (pss_one (ps_ret (pv 1)))))), ?_⟩
    refine N.go (σ := [some (.ref a), none, none, none, none]) ?_
    walk_at "w"
    walk_at "d"
    refine S.forR (n := (xs.length : Int)) (fun t σ f => ∃ y1 y2 y3, σ = [some (.ref a), some (.str (tx (wrs xs t))), y1, y2, y3] ∧ f = []) ?_ ?_ ?_
    · walk_at "w"
      exact ⟨rfl, by omega, by omega, none, none, none, rfl, rfl⟩
    · rintro t σ f ht ⟨y1, y2, y3, rfl, rfl⟩
      have hwl := wrs_len hb hl t
      have hstep : wrs xs (t + 1) = if xs.getD (xs.length - 1 - t) 0 = 0 then wrs xs t else wrs xs t ++ sgn (wrs xs t) (xs.getD (xs.length - 1 - t) 0) ++ trm (xs.getD (xs.length - 1 - t) 0).natAbs (xs.length - 1 - t) := rfl
      have hnb : (xs.getD (xs.length - 1 - t) 0).natAbs < 2 ^ 210 := hb.at _
      generalize wrs xs t = fnd at hstep hwl
      walk_at "d"
      walk_at "w"
      have eP : (xs.length : Int) - 1 - (t : Int) = ((xs.length - 1 - t : Nat) : Int) := by omega
      rw [eP]
      walk_at "d"
      have hp : xs.length - 1 - t < 1000 := by omega
      have hix : 0 ≤ ((xs.length - 1 - t : Nat) : Int) ∧ ((xs.length - 1 - t : Nat) : Int) < (xs.length : Int) := by omega
      have hg : gat xs ((xs.length - 1 - t : Nat) : Int) = xs.getD (xs.length - 1 - t) 0 := gat_nat _ _
      generalize xs.length - 1 - t = p at hstep hnb hp hix hg
      generalize xs.getD p 0 = n at hstep hnb hg
      walk_at "w"
      rw [hg]
      by_cases h0 : n = 0
      · rw [decide_eq_true h0]
        rw [if_pos h0] at hstep
        walk_at "w"
        rw [← hstep]
        walk_at "lp"
        exact ⟨_, _, _, rfl, rfl⟩
      rw [decide_eq_false h0]
      rw [if_neg h0] at hstep
      have l1 := numL_len64 hnb
      have l2 := TL.numL_len (n := p) (k := 3) (by decide) (by omega)
      obtain ⟨w1, hw1⟩ : ∃ s : List Nat, s = if 0 < p ∧ TL.numL n.natAbs = [49] then [] else TL.numL n.natAbs := ⟨_, rfl⟩
      obtain ⟨w2, hw2⟩ : ∃ s : List Nat, s = if p = 1 then w1 ++ [120] else w1 := ⟨_, rfl⟩
      obtain ⟨w3, hw3⟩ : ∃ s : List Nat, s = if 1 < p then w2 ++ [120, 94] ++ TL.numL p else w2 := ⟨_, rfl⟩
      obtain ⟨w4, hw4⟩ : ∃ s : List Nat, s = if fnd ≠ [] ∧ 0 < n then [32, 43, 32] ++ w3 else w3 := ⟨_, rfl⟩
      obtain ⟨w5, hw5⟩ : ∃ s : List Nat, s = if fnd ≠ [] ∧ n < 0 then [32, 45, 32] ++ w4 else w4 := ⟨_, rfl⟩
      obtain ⟨w6, hw6⟩ : ∃ s : List Nat, s = if fnd = [] ∧ n < 0 then [45] ++ w5 else w5 := ⟨_, rfl⟩
      have e3 : w3 = trm n.natAbs p := by
        unfold trm lett
        have hone : TL.numL n.natAbs = [49] ↔ n.natAbs = 1 := numL_one
        have ew1 : w1 = if n.natAbs = 1 ∧ 0 < p then [] else TL.numL n.natAbs := by
          rw [hw1]
          by_cases c1 : n.natAbs = 1 ∧ 0 < p
          · rw [if_pos c1, if_pos ⟨c1.2, hone.mpr c1.1⟩]
          · rw [if_neg c1, if_neg (fun z => c1 ⟨hone.mp z.2, z.1⟩)]
        rw [← ew1]
        by_cases p0 : p = 0
        · rw [if_pos p0, hw3, if_neg (by omega), hw2, if_neg (by omega), List.append_nil]
        · rw [if_neg p0]
          by_cases p1 : p = 1
          · rw [if_pos p1, hw3, if_neg (by omega), hw2, if_pos p1]
          · rw [if_neg p1, hw3, if_pos (by omega), hw2, if_neg p1, List.append_assoc]
      have e6 : w6 = sgn fnd n ++ w3 := by
        unfold sgn
        by_cases he : fnd = []
        · have a4 : w4 = w3 := by rw [hw4, if_neg (fun z => z.1 he)]
          have a5 : w5 = w4 := by rw [hw5, if_neg (fun z => z.1 he)]
          rw [if_pos he]
          by_cases hn : n < 0
          · rw [if_pos hn, hw6, if_pos ⟨he, hn⟩, a5, a4]
          · rw [if_neg hn, hw6, if_neg (fun z => hn z.2), a5, a4]; rfl
        · have a6 : w6 = w5 := by rw [hw6, if_neg (fun z => he z.1)]
          rw [if_neg he]
          by_cases hn : n < 0
          · have a4 : w4 = w3 := by rw [hw4, if_neg (fun z => by have := z.2; omega)]
            rw [if_pos hn, a6, hw5, if_pos ⟨he, hn⟩, a4]
          · have a5 : w5 = w4 := by rw [hw5, if_neg (fun z => hn z.2)]
            rw [if_neg hn, a6, a5, hw4, if_pos ⟨he, by omega⟩]
      have k1 : w1.length ≤ 64 := by rw [hw1]; split <;> (try simp) <;> omega
      have k2 : w2.length ≤ 65 := by rw [hw2]; split <;> (try simp) <;> omega
      have k3 : w3.length ≤ 70 := by rw [hw3]; split <;> (try simp) <;> omega
      have k4 : w4.length ≤ 73 := by rw [hw4]; split <;> (try simp) <;> omega
      have k5 : w5.length ≤ 76 := by rw [hw5]; split <;> (try simp) <;> omega
      have k6 : w6.length ≤ 77 := by rw [hw6]; split <;> (try simp) <;> omega
      walk_at "w0"
      rw [hg]
      walk_at "w0"
      refine RC.strI (num_log' hnb) ?_
      walk_at "w0"
      walk_at "d"
      refine S.ifset (.str (tx w1)) ?_ ?_
      · walk_at "w"
        by_cases c1 : 0 < p
        · rw [decide_eq_true (show (0 : Int) < (p : Int) by omega)]
          walk_at "w"
          refine ⟨rfl, fun hb => ?_, fun hb => ?_⟩
          · walk_at "w"
            rw [hw1, if_pos ⟨c1, of_decide_eq_true hb⟩]
            exact ⟨rfl, rfl⟩
          · rw [hw1, if_neg (fun z => of_decide_eq_false hb z.2)]
            rfl
        · rw [decide_eq_false (show ¬ (0 : Int) < (p : Int) by omega)]
          walk_at "w"
          refine ⟨rfl, fun hb => Bool.noConfusion hb, fun _ => ?_⟩
          rw [hw1, if_neg (fun z => c1 z.1)]
          rfl
      walk_at "d"
      refine S.seq ?_
      refine S.ifset (.str (tx w2)) ?_ ?_
      · walk_at "w"
        refine ⟨rfl, fun hb => ?_, fun hb => ?_⟩
        · walk_at "w"
          refine RW.addS (by simp; omega) ?_
          have := of_decide_eq_true hb
          rw [hw2, if_pos (by omega)]
          exact ⟨rfl, rfl⟩
        · have := of_decide_eq_false hb
          rw [hw2, if_neg (by omega)]
          rfl
      walk_at "d"
      refine S.seq ?_
      refine S.ifset (.str (tx w3)) ?_ ?_
      · walk_at "w"
        refine ⟨rfl, fun hb => ?_, fun hb => ?_⟩
        · walk_at "w"
          refine RW.addS (by simp; omega) ?_
          walk_at "w"
          refine RC.strI (num_log' (Nat.lt_of_lt_of_le hp (by decide))) ?_
          refine RW.addS (by simp; omega) ?_
          have := of_decide_eq_true hb
          rw [hw3, if_pos (by omega)]
          exact ⟨rfl, rfl⟩
        · have := of_decide_eq_false hb
          rw [hw3, if_neg (by omega)]
          rfl
      walk_at "d"
      refine S.seq ?_
      refine S.ifset (.str (tx w4)) ?_ ?_
      · walk_at "w"
        by_cases c1 : fnd = []
        · rw [decide_eq_true c1]
          walk_at "w"
          refine ⟨rfl, fun hb => Bool.noConfusion hb, fun _ => ?_⟩
          rw [hw4, if_neg (fun z => z.1 c1)]
          rfl
        · rw [decide_eq_false c1]
          walk_at "w"
          rw [hg]
          refine ⟨rfl, fun hb => ?_, fun hb => ?_⟩
          · walk_at "w"
            refine RW.addS (by simp; omega) ?_
            rw [hw4, if_pos ⟨c1, of_decide_eq_true hb⟩]
            exact ⟨rfl, rfl⟩
          · rw [hw4, if_neg (fun z => of_decide_eq_false hb z.2)]
            rfl
      walk_at "d"
      refine S.seq ?_
      refine S.ifset (.str (tx w5)) ?_ ?_
      · walk_at "w"
        by_cases c1 : fnd = []
        · rw [decide_eq_true c1]
          walk_at "w"
          refine ⟨rfl, fun hb => Bool.noConfusion hb, fun _ => ?_⟩
          rw [hw5, if_neg (fun z => z.1 c1)]
          rfl
        · rw [decide_eq_false c1]
          walk_at "w"
          rw [hg]
          refine ⟨rfl, fun hb => ?_, fun hb => ?_⟩
          · walk_at "w"
            refine RW.addS (by simp; omega) ?_
            rw [hw5, if_pos ⟨c1, of_decide_eq_true hb⟩]
            exact ⟨rfl, rfl⟩
          · rw [hw5, if_neg (fun z => of_decide_eq_false hb z.2)]
            rfl
      walk_at "d"
      refine S.seq ?_
      refine S.ifset (.str (tx w6)) ?_ ?_
      · walk_at "w"
        by_cases c1 : fnd = []
        · rw [decide_eq_true c1]
          walk_at "w"
          rw [hg]
          refine ⟨rfl, fun hb => ?_, fun hb => ?_⟩
          · walk_at "w"
            refine RW.addS (by simp; omega) ?_
            rw [hw6, if_pos ⟨c1, of_decide_eq_true hb⟩]
            exact ⟨rfl, rfl⟩
          · rw [hw6, if_neg (fun z => of_decide_eq_false hb z.2)]
            rfl
        · rw [decide_eq_false c1]
          walk_at "w"
          refine ⟨rfl, fun hb => Bool.noConfusion hb, fun _ => ?_⟩
          rw [hw6, if_neg (fun z => c1 z.1)]
          rfl
      walk_at "d"
      walk_at "w"
      refine RW.addS (by omega) ?_
      rw [e6, e3, ← List.append_assoc, ← hstep]
      walk_at "d"
      walk_at "lp"
      exact ⟨_, _, _, rfl, rfl⟩
    · rintro σ f ⟨y1, y2, y3, rfl, rfl⟩
      have ek : ((xs.length : Int)).toNat = xs.length := by simp
      rw [ek]
      unfold wr at q
      walk_at "w"
      by_cases he : wrs xs xs.length = []
      · rw [if_pos he] at q
        rw [decide_eq_true he]
        walk_at "w"
        exact NR.sub q (by walk_at "sub")
      · rw [if_neg he] at q
        rw [decide_eq_false he]
        walk_at "w"
        exact NR.sub q (by walk_at "sub")

end

section
variable {P : Program} {w : World} {K : PySem.W.Frag} {mg : Str → Option Value} {base : Heap}
/-- all figures -/
def Fgs (a : List Nat) : Prop := ∀ c ∈ a, 48 ≤ c ∧ c ≤ 57
instance (a : List Nat) : Decidable (Fgs a) := by unfold Fgs; exact inferInstance
def fg (a : List Nat) (m : Nat) : Int := if a = [] ∨ m < a.length then -1 else if Fgs a then ((PySem.NumText.digitsVal a : Nat) : Int) else -1
theorem digitsVal_lt : ∀ {k : Nat} {a : List Nat}, a.length = k → Fgs a → PySem.NumText.digitsVal a < 10 ^ k
  | 0, a, h, _ => by
    have : a = [] := List.length_eq_zero_iff.mp h
    rw [this]; decide
  | k + 1, a, h, hf => by
    have hne : a ≠ [] := fun z => by rw [z] at h; simp at h
    obtain ⟨b, c, e⟩ : ∃ b c, a = b ++ [c] := ⟨a.dropLast, a.getLast hne, (List.dropLast_concat_getLast hne).symm⟩
    subst e
    have hc := hf c (by simp)
    have ih := digitsVal_lt (k := k) (a := b) (by simpa using h) fun d hd => hf d (by simp [hd])
    rw [digits_snoc, Nat.pow_succ]
    omega
theorem fg_bd (a : List Nat) {m : Nat} : fg a m < 10 ^ m := by
  unfold fg
  have p : (0 : Int) < 10 ^ m := Int.pow_pos (by decide)
  split
  · omega
  · rename_i h
    split
    · rename_i hf
      have := digitsVal_lt (k := a.length) rfl hf
      have h2 : 10 ^ a.length ≤ 10 ^ m := Nat.pow_le_pow_right (by decide) (Nat.le_of_not_lt fun z => h (.inr z))
      have e : ((10 ^ m : Nat) : Int) = (10 : Int) ^ m := by rw [Int.natCast_pow]; rfl
      omega
    · omega
theorem fg_numL {n m : Nat} (h : (TL.numL n).length ≤ m) : fg (TL.numL n) m = (n : Int) := by
  unfold fg
  rw [if_neg (fun z => z.elim (TL.numL_ne n) (fun z => by omega)), if_pos (show Fgs _ from TL.numL_digits n)]
  rw [TL.numL_val]
def sp__law_figures : Sp := fun vs H Q _ => ∃ (a : List Nat) (m : Nat), vs = [.str (tx a), .int (m : Int)] ∧ a.length ≤ 90000 ∧ m ≤ 600 ∧ NR Q (.int (fg a m)) H []
theorem WC__law_figures {H0 : Hp} {fs : Fs} {Φ : CV} {a : List Nat} {m : Nat} (hl : a.length ≤ 90000) (hm : m ≤ 600) (q : Φ (.int (fg a m)) fs) : WC sp__law_figures [.str (tx a), .int (m : Int)] H0 fs Φ := fun H k Q E cc => ⟨a, m, rfl, hl, hm, fun H' k' => cc _ _ _ (k.app k') q⟩
theorem RC.intF {H0 : Hp} {fs : Fs} {Φ : CV} {a : List Nat} (h : Fgs a) (hne : a ≠ []) (hl : a.length ≤ 640) (q : Φ (.int ((PySem.NumText.digitsVal a : Nat) : Int)) fs) : RC rIntS [.str (tx a)] H0 fs Φ := fun H k _ c => by
  have e : (tx a).cps.toList = a := by simp [tx]
  refine ⟨_, _, rfl, PySem.intText_digits (x := tx a) (by rw [e]; exact h) (by rw [e]; exact hne) (by rw [tx_len]; omega), by rw [tx_len]; exact hl, ?_⟩
  rw [e]
  exact c _ fs H k q
theorem ok__law_figures (T : Txt K mg) : FnOk P w K mg base CX0 1 T.a__law_figures T.d__law_figures ["_law_word", "_law_most"] sp__law_figures := by
  refine T.F__law_figures.ok sc__law_figures (fun vs H Q E h => ?_) (fun cdv A outer s H vs Q E hr h => ?_)
  · obtain ⟨a, m, rfl, _⟩ := h; rfl
  · obtain ⟨a, m, rfl, hl, hm, q⟩ := h
    refine ⟨_, (pss_cons (ps_if (PW.pt (pw_or (pt_cmpR op_eq (pv 0) (pe_strL (l := []) (by decide +kernel)) (nomark _)) (pw_or1 (pt_cmpR op_gt (pe_callB cLenS (by rfl) T.z_len PySem.boot_len (pa_cons (pv 0) pa_nil)) (pv 1) (nomark _))))) (pss_one (ps_ret (pe_un un_neg pe_int))) pss_nil)
      (pss_cons (ps_for PassesOwn.never rfl (pi_str (pv 0)) (pg_name (i := 2) sc__law_figures.nd rfl (Or.inl rfl)) (pss_one (ps_if (pt_cmpR op_notInS (pv 2) (pe_strL (l := [48, 49, 50, 51, 52, 53, 54, 55, 56, 57]) (by decide +kernel)) rfl) (pss_one (ps_ret (pe_un un_neg pe_int))) pss_nil)))
      (pss_one (ps_ret (pe_callTy cInt (by rfl) T.z_int (by decide +kernel) (pa_cons (pv 0) pa_nil)))))), ?_⟩
    refine N.go (σ := [some (.str (tx a)), some (.int (m : Int)), none]) ?_
    have hll : a.length ≤ 1000000 := by omega
    unfold fg at q
    walk_at "w"
    by_cases hne : a = []
    · rw [decide_eq_true hne]
      rw [if_pos (.inl hne)] at q
      walk_at "w"
      walk_at "fin"
    rw [decide_eq_false hne]
    walk_at "w"
    by_cases hml : (m : Int) < (a.length : Int)
    · rw [decide_eq_true hml]
      rw [if_pos (.inr (by omega))] at q
      walk_at "w"
      walk_at "fin"
    rw [decide_eq_false hml]
    rw [if_neg (fun z => z.elim hne (fun z => by omega))] at q
    walk_at "w"
    refine S.forS (a := a) (fun i σ f => (∃ y, σ = [some (.str (tx a)), some (.int (m : Int)), y]) ∧ f = [] ∧ ∀ c ∈ a.take i, 48 ≤ c ∧ c ≤ 57) ?_ ?_ ?_
    · walk_at "w"
      exact ⟨rfl, ⟨none, rfl⟩, rfl, fun c h => nomatch h⟩
    · rintro i ch σ f hi ⟨⟨y, rfl⟩, rfl, hd⟩
      walk_at "d"
      walk_at "w"
      by_cases hch : 48 ≤ ch ∧ ch ≤ 57
      · have hin : ch ∈ [48, 49, 50, 51, 52, 53, 54, 55, 56, 57] := by simp; omega
        rw [decide_eq_true hin]
        walk_at "w"
        walk_at "lp"
        refine ⟨⟨_, rfl⟩, rfl, fun c hc => ?_⟩
        rw [List.take_add_one, hi] at hc
        rcases List.mem_append.mp hc with hc | hc
        · exact hd c hc
        · have : c = ch := by simpa using hc
          rw [this]; exact hch
      · have hin : ¬ ch ∈ [48, 49, 50, 51, 52, 53, 54, 55, 56, 57] := by simp; omega
        rw [decide_eq_false hin]
        rw [if_neg (fun z => hch (z ch (List.mem_of_getElem? hi)))] at q
        walk_at "w"
        walk_at "fin"
    · rintro σ f ⟨⟨y, rfl⟩, rfl, hd⟩
      rw [List.take_length] at hd
      rw [if_pos (show Fgs a from hd)] at q
      walk_at "w"
      refine RC.intF hd hne (by omega) ?_
      walk_at "fin"

end

section
variable {P : Program} {w : World} {K : PySem.W.Frag} {mg : Str → Option Value} {base : Heap}
/-- a term's number and power, below nought where there is none -/
def tnum (F : List Nat) : Int := if F = [] then 1 else fg F 60
def tpow (R : List Nat) : Int := if R = [] then 1 else if R.head? = some 94 then fg R.tail 2 else -1
theorem tnum_bd (F : List Nat) : tnum F < 10 ^ 60 := by
  unfold tnum
  split
  · decide
  · exact fg_bd F
theorem tpow_bd (R : List Nat) : tpow R < 100 := by
  unfold tpow
  split
  · decide
  · split
    · exact fg_bd (m := 2) R.tail
    · decide
def sp__law_term : Sp := fun vs H Q _ => ∃ (a : List Nat), vs = [.str (tx a)] ∧ a.length ≤ 90000 ∧ (120 ∉ a → ∀ r, NR Q (.ref r) H [(r, .tup [.int (fg a 60), .int 0])]) ∧ (∀ F R, a = F ++ 120 :: R → 120 ∉ F → ∀ r, NR Q (.ref r) H [(r, .tup [.int (tnum F), .int (tpow R)])])
theorem WC__law_term {H0 : Hp} {fs : Fs} {Φ : CV} {a : List Nat} (hl : a.length ≤ 90000) (q1 : 120 ∉ a → ∀ r, Φ (.ref r) ((r, .tup [.int (fg a 60), .int 0]) :: fs)) (q2 : ∀ F R, a = F ++ 120 :: R → 120 ∉ F → ∀ r, Φ (.ref r) ((r, .tup [.int (tnum F), .int (tpow R)]) :: fs)) : WC sp__law_term [.str (tx a)] H0 fs Φ :=
  fun H k Q E cc => ⟨a, rfl, hl, fun h r H' k' => cc _ _ _ (k.app k') (q1 h r), fun F R h1 h2 r H' k' => cc _ _ _ (k.app k') (q2 F R h1 h2 r)⟩
theorem ok__law_term (T : Txt K mg) : FnOk P w K mg base CX0 2 T.a__law_term T.d__law_term ["_law_word"] sp__law_term := by
  refine T.F__law_term.ok sc__law_term (fun vs H Q E h => ?_) (fun cdv A outer s H vs Q E hr h => ?_)
  · obtain ⟨a, rfl, _⟩ := h; rfl
  · obtain ⟨a, rfl, hl, q1, q2⟩ := h
    refine ⟨_, (pss_cons (ps_if (pt_cmpR op_notInS (pe_strL (l := [120]) (by decide +kernel)) (pv 0) rfl) (pss_one (ps_ret (pe_tup (pa_cons (pe_call (ok__law_figures T) (hr.mono (by decide)) (by rfl) T.m__law_figures T.F__law_figures.kp T.b__law_figures .nil pass0 (pa_cons (pv 0) (pa_cons pe_int pa_nil))) (pa_cons pe_int pa_nil))))) pss_nil)
      (pss_cons (ps_set (i := 1) sc__law_term.nd rfl (Or.inl rfl) (pe_slice sl_strR (pv 0) po_none (po_some (pe_m1 PySem.F.slot_str_index PySem.F.type_str_index mt_index (pv 0) (pe_strL (l := [120]) (by decide +kernel))))))
      (pss_cons (ps_set (i := 2) sc__law_term.nd rfl (Or.inl rfl) (pe_slice sl_strR (pv 0) (po_some (pe_op op_add (pe_callB cLenS (by rfl) T.z_len PySem.boot_len (pa_cons (pv 1) pa_nil)) pe_int)) po_none))
      (pss_cons (ps_set (i := 3) sc__law_term.nd rfl (Or.inl rfl) pe_int)
      (pss_cons (ps_set (i := 4) sc__law_term.nd rfl (Or.inl rfl) pe_int)
      (pss_cut (ps_if (pt_cmpR op_ne (pv 1) (pe_strL (l := []) (by decide +kernel)) (nomark _)) (pss_one (ps_set (i := 3) sc__law_term.nd rfl (Or.inl rfl) (pe_call (ok__law_figures T) (hr.mono (by decide)) (by rfl) T.m__law_figures T.F__law_figures.kp T.b__law_figures .nil pass0 (pa_cons (pv 1) (pa_cons pe_int pa_nil))))) pss_nil)
      (pss_cut (ps_if (pt_cmpR op_ne (pv 2) (pe_strL (l := []) (by decide +kernel)) (nomark _)) (pss_cons (ps_set (i := 4) sc__law_term.nd rfl (Or.inl rfl) (pe_un un_neg pe_int))
      (pss_one (ps_if (pt_cmpR op_eq (pe_ix ix_str (pv 2) pe_int (fun _ _ => rfl)) (pe_strL (l := [94]) (by decide +kernel)) (nomark _)) (pss_one (ps_set (i := 4) sc__law_term.nd rfl (Or.inl rfl) (pe_call (ok__law_figures T) (hr.mono (by decide)) (by rfl) T.m__law_figures T.F__law_figures.kp T.b__law_figures .nil pass0 (pa_cons (pe_slice sl_strR (pv 2) (po_some pe_int) po_none) (pa_cons pe_int pa_nil))))) pss_nil))) pss_nil)
      (pss_one (ps_ret (pe_tup (pa_cons (pv 3) (pa_cons (pv 4) pa_nil)))))))))))), ?_⟩
    refine N.go (σ := [some (.str (tx a)), none, none, none, none]) ?_
    have hll : a.length ≤ 1000000 := by omega
    walk_at "w"
    by_cases hx : 120 ∈ a
    · rw [decide_eq_true hx]
      obtain ⟨F, R, e, hfr⟩ := split_x hx
      have hq := q2 F R e hfr
      clear q1 q2
      subst e
      have hlF : F.length + R.length + 1 ≤ 90000 := by simp only [List.length_append, List.length_cons] at hl; omega
      have hfl : F.length ≤ 1000000 := by omega
      have hrl : R.length ≤ 1000000 := by omega
      walk_at "w"
      refine RM.indexL hfr ?_
      walk_at "w"
      refine RS.takeS (by omega) hll ?_
      have et : (F ++ 120 :: R).take ((F.length : Int)).toNat = F := by
        rw [Int.toNat_natCast, List.take_left]
      rw [et]
      walk_at "d"
      walk_at "w"
      refine RS.dropS (by omega) hll ?_
      have ed : (F ++ 120 :: R).drop ((F.length : Int) + 1).toNat = R := by
        rw [show ((F.length : Int) + 1).toNat = F.length + 1 by omega, List.drop_append, List.drop_eq_nil_of_le (by omega), show F.length + 1 - F.length = 1 by omega]
        rfl
      rw [ed]
      walk_at "d"
      walk_at "w"
      walk_at "d"
      walk_at "w"
      walk_at "d"
      refine S.cut (fun σ f => σ = [some (.str (tx (F ++ 120 :: R))), some (.str (tx F)), some (.str (tx R)), some (.int (tnum F)), some (.int 1)] ∧ f = []) ?_ ?_
      · walk_at "w"
        by_cases hF : F = []
        · rw [decide_eq_true hF]
          walk_at "w"
          walk_at "un"
          unfold tnum
          rw [if_pos hF]
          exact ⟨rfl, rfl⟩
        · rw [decide_eq_false hF]
          walk_at "w"
          refine WC__law_figures (m := 60) (by omega) (by omega) ?_
          walk_at "d"
          walk_at "un"
          unfold tnum
          rw [if_neg hF]
          exact ⟨rfl, rfl⟩
      rintro σ f ⟨rfl, rfl⟩
      refine S.cut (fun σ f => σ = [some (.str (tx (F ++ 120 :: R))), some (.str (tx F)), some (.str (tx R)), some (.int (tnum F)), some (.int (tpow R))] ∧ f = []) ?_ ?_
      · walk_at "w"
        by_cases hR : R = []
        · rw [decide_eq_true hR]
          walk_at "w"
          walk_at "un"
          unfold tpow
          rw [if_pos hR]
          exact ⟨rfl, rfl⟩
        · rw [decide_eq_false hR]
          obtain ⟨c, r, hc⟩ : ∃ c r, R = c :: r := by
            cases R with
            | nil => exact absurd rfl hR
            | cons c r => exact ⟨c, r, rfl⟩
          walk_at "w"
          walk_at "d"
          walk_at "w"
          refine RW.ixC (c := c) (by omega) (by rw [hc]; exact (atI_nat (show (c :: r)[0]? = some c from rfl) : atI (c :: r) ((0 : Nat) : Int) = some c)) ?_
          walk_at "w"
          by_cases h94 : c = 94
          · rw [decide_eq_true (show [c] = [94] by rw [h94])]
            walk_at "w"
            refine RS.dropS (i := 1) (by decide) hrl ?_
            walk_at "w"
            refine WC__law_figures (m := 2) (by rw [List.length_drop]; omega) (by omega) ?_
            walk_at "d"
            walk_at "un"
            unfold tpow
            rw [if_neg hR, hc, if_pos (by rw [h94]; rfl)]
            exact ⟨rfl, rfl⟩
          · rw [decide_eq_false (show ¬ [c] = [94] from fun z => h94 (List.cons.inj z).1)]
            walk_at "w"
            walk_at "un"
            unfold tpow
            rw [if_neg hR, hc, if_neg (by intro z; exact h94 (Option.some.inj z))]
            exact ⟨rfl, rfl⟩
      rintro σ f ⟨rfl, rfl⟩
      walk_at "w"
      refine ⟨by simp, fun r => ?_⟩
      exact NR.sub (hq r) (by walk_at "sub")
    · rw [decide_eq_false hx]
      walk_at "w"
      refine WC__law_figures (m := 60) hl (by omega) ?_
      walk_at "w"
      refine ⟨by simp, fun r => ?_⟩
      exact NR.sub (q1 hx r) (by walk_at "sub")

end

section
variable {P : Program} {w : World} {K : PySem.W.Frag} {mg : Str → Option Value} {base : Heap}
theorem term_ok {n p : Nat} (h0 : 0 < n) (hl : (TL.numL n).length ≤ 60) (hp : p < 100) :
    (120 ∉ trm n p → fg (trm n p) 60 = (n : Int) ∧ p = 0) ∧ (∀ F R, trm n p = F ++ 120 :: R → 120 ∉ F → tnum F = (n : Int) ∧ tpow R = (p : Int)) := by
  by_cases h : p = 0
  · subst h
    rw [trm_zero]
    refine ⟨fun _ => ⟨fg_numL hl, rfl⟩, fun F R e _ => ?_⟩
    exact absurd (show 120 ∈ TL.numL n by rw [e]; simp) (numL_x n)
  · have hp0 : 0 < p := Nat.pos_of_ne_zero h
    obtain ⟨R0, eR⟩ := lett_x hp0
    have et : trm n p = (if n = 1 then [] else TL.numL n) ++ 120 :: R0 := by rw [trm_x hp0, eR]
    have hF0 : 120 ∉ (if n = 1 then [] else TL.numL n) := by
      split
      · simp
      · exact numL_x n
    refine ⟨fun hx => absurd (show 120 ∈ trm n p by rw [et]; simp) hx, fun F R e hF => ?_⟩
    rw [et] at e
    obtain ⟨e1, e2⟩ := split_x_eq e hF0 hF
    subst e1 e2
    refine ⟨?_, ?_⟩
    · unfold tnum
      by_cases h1 : n = 1
      · rw [if_pos h1, if_pos rfl, h1]; rfl
      · rw [if_neg h1, if_neg (TL.numL_ne n), fg_numL hl]
    · unfold lett at eR
      rw [if_neg h] at eR
      unfold tpow
      by_cases h1 : p = 1
      · rw [if_pos h1] at eR
        have : R0 = [] := (List.cons.inj eR).2.symm
        rw [this, if_pos rfl, h1]; rfl
      · rw [if_neg h1] at eR
        have : R0 = 94 :: TL.numL p := (List.cons.inj eR).2.symm
        rw [this, if_neg (by simp), if_pos (show (94 :: TL.numL p).head? = some 94 from rfl)]
        exact fg_numL (TL.numL_len (k := 2) (by decide) (by omega))
theorem ten60 {x : Int} (h : x < 10 ^ 60) (h0 : 0 ≤ x) {s : Int} (hs : s = 1 ∨ s = -1) : Bd 200 (s * x) ∧ IntMulOk s x := by
  have e : (10 : Int) ^ 60 = 1000000000000000000000000000000000000000000000000000000000000 := by decide
  have e2 : (2 : Nat) ^ 200 = 1606938044258990275541962092341162602522202993782792835301376 := by decide
  rw [e] at h
  refine ⟨?_, ?_⟩
  · show (s * x).natAbs < 2 ^ 200
    rw [e2]
    rcases hs with rfl | rfl <;> omega
  · rcases hs with rfl | rfl
    · exact mulL (by decide) (by decide)
    · exact mulL (by decide) (by decide)
def sp__law_due : Sp := fun vs H Q _ => ∃ (a : List Nat), vs = [.str (tx a)] ∧ a.length ≤ 80000 ∧ (∀ xs, Tr xs → xs.length ≤ 100 → wr xs = a → ∀ x ∈ xs, (TL.numL x.natAbs).length ≤ 60) ∧
  (∀ xs, Tr xs → xs.length ≤ 100 → wr xs = a → ∀ r, NR Q (.ref r) H [(r, .lst (zV xs))]) ∧ (¬ Wd a → NR Q .non H [])
theorem WC__law_due {H0 : Hp} {fs : Fs} {Φ : CV} {a : List Nat} (hl : a.length ≤ 80000) (hd : ∀ xs, Tr xs → xs.length ≤ 100 → wr xs = a → ∀ x ∈ xs, (TL.numL x.natAbs).length ≤ 60) (q : ∀ xs, Tr xs → xs.length ≤ 100 → wr xs = a → ∀ r, Φ (.ref r) ((r, .lst (zV xs)) :: fs)) (q2 : ¬ Wd a → Φ .non fs) : WC sp__law_due [.str (tx a)] H0 fs Φ :=
  fun H k Q E cc => ⟨a, rfl, hl, hd, fun xs h1 h2 h3 r H' k' => cc _ _ _ (k.app k') (q xs h1 h2 h3 r), fun h H' k' => cc _ _ _ (k.app k') (q2 h)⟩
theorem ok__law_due (T : Txt K mg) : FnOk P w K mg base CX0 3 T.a__law_due T.d__law_due ["_law_line"] sp__law_due := by
  refine T.F__law_due.ok sc__law_due (fun vs H Q E h => ?_) (fun cdv A outer s H vs Q E hr h => ?_)
  · obtain ⟨a, rfl, _⟩ := h; rfl
  · obtain ⟨a, rfl, hl, hd, q, qn⟩ := h
    refine ⟨_, (pss_cons (ps_set (i := 1) sc__law_due.nd rfl (Or.inl rfl) (pe_op op_rep (pe_lst (pa_cons pe_int pa_nil)) pe_int))
      (pss_cons (ps_set (i := 2) sc__law_due.nd rfl (Or.inl rfl) pe_int)
      (pss_cons (ps_set (i := 3) sc__law_due.nd rfl (Or.inl rfl) (pe_m1 PySem.F.slot_str_split PySem.F.type_str_split mt_splitR (pv 0) (pe_strL (l := [32]) (by decide +kernel))))
      (pss_cut (ps_if (pt_cmpR op_eq (pe_slice sl_strR (pv 0) po_none (po_some pe_int)) (pe_strL (l := [45]) (by decide +kernel)) (nomark _)) (pss_cons (ps_set (i := 2) sc__law_due.nd rfl (Or.inl rfl) (pe_un un_neg pe_int))
      (pss_one (ps_set (i := 3) sc__law_due.nd rfl (Or.inl rfl) (pe_m1 PySem.F.slot_str_split PySem.F.type_str_split mt_splitR (pe_slice sl_strR (pv 0) (po_some pe_int) po_none) (pe_strL (l := [32]) (by decide +kernel)))))) pss_nil)
      (pss_cons (ps_for PassesOwn.never rfl (pi_range1 rfl T.z_range (pa_cons (pe_callB cLen (by rfl) T.z_len PySem.boot_len (pa_cons (pv 3) pa_nil)) pa_nil)) (pg_name (i := 4) sc__law_due.nd rfl (Or.inl rfl)) (pss_one (ps_if (pt_cmpR op_eq (pe_op op_mod (pv 4) pe_int) pe_int (nomark _)) (pss_cons (ps_set (i := 5) sc__law_due.nd rfl (Or.inl rfl) (pe_call (ok__law_term T) (hr.mono (by decide)) (by rfl) T.m__law_term T.F__law_term.kp T.b__law_term .nil pass0 (pa_cons (pe_ix ix_list (pv 3) (pv 4) (fun _ _ => rfl)) pa_nil)))
      (pss_cons (ps_if (PW.pt (pw_or (pt_cmpR op_lt (pe_ix ix_tup (pv 5) pe_int (fun _ _ => rfl)) pe_int (nomark _)) (pw_or1 (pt_cmpR op_lt (pe_ix ix_tup (pv 5) pe_int (fun _ _ => rfl)) pe_int (nomark _))))) (pss_one (ps_ret pe_non)) pss_nil)
      (pss_one (ps_asg (pe_op op_mulG (pv 2) (pe_ix ix_tup (pv 5) pe_int (fun _ _ => rfl))) (pg_sub (pv 1) (pe_ix ix_tup (pv 5) pe_int (fun _ _ => rfl)) set_list))))) (pss_cons (ps_set (i := 2) sc__law_due.nd rfl (Or.inl rfl) pe_int)
      (pss_one (ps_if (pt_cmpR op_eq (pe_ix ix_list (pv 3) (pv 4) (fun _ _ => rfl)) (pe_strL (l := [45]) (by decide +kernel)) (nomark _)) (pss_one (ps_set (i := 2) sc__law_due.nd rfl (Or.inl rfl) (pe_un un_neg pe_int))) pss_nil))))))
      (pss_cons (ps_set (i := 1) sc__law_due.nd rfl (Or.inl rfl) (pe_call (ok__law_trim T) (hr.mono (by decide)) (by rfl) T.m__law_trim T.F__law_trim.kp T.b__law_trim .nil pass0 (pa_cons (pv 1) pa_nil)))
      (pss_cons (ps_if (pt_cmpR op_ne (pe_call (ok__law_written T) (hr.mono (by decide)) (by rfl) T.m__law_written T.F__law_written.kp T.b__law_written .nil pass0 (pa_cons (pv 1) pa_nil)) (pv 0) (nomark _)) (pss_one (ps_ret pe_non)) pss_nil)
      (pss_one (ps_ret (pv 1)))))))))), ?_⟩
    refine N.go (σ := [some (.str (tx a)), none, none, none, none, none]) ?_
    have hll : a.length ≤ 1000000 := by omega
    walk_at "w"
    intro z
    walk_at "w"
    refine RW.rep (x := 0) (by walk_at "rx") (by decide) fun pr => ?_
    walk_at "d"
    walk_at "w"
    walk_at "d"
    walk_at "w"
    refine RM.splitL (by decide) (by omega) fun pw0 => ?_
    walk_at "d"
    obtain ⟨J, hJ⟩ : ∃ J, J = if a.take 1 = [45] then a.drop 1 else a := ⟨_, rfl⟩
    obtain ⟨s0, hs0⟩ : ∃ s0 : Int, s0 = if a.take 1 = [45] then -1 else 1 := ⟨_, rfl⟩
    have hJl : J.length ≤ 80000 := by
      rw [hJ]
      split
      · rw [List.length_drop]; omega
      · exact hl
    have hs01 : s0 = 1 ∨ s0 = -1 := by rw [hs0]; split; exact .inr rfl; exact .inl rfl
    refine S.cut (fun σ f => ∃ pw, σ = [some (.str (tx a)), some (.ref pr), some (.int s0), some (.ref pw), none, none] ∧ f = [(pw, .lst (sV (TL.spl [32] 0 [] J))), (pr, .lst (zV (List.replicate ((100 : Int)).toNat 0)))]) ?_ ?_
    · walk_at "w"
      refine RS.takeS (by decide) hll ?_
      walk_at "w"
      by_cases h : a.take 1 = [45]
      · have h1 : decide (List.take (Int.toNat 1) a = [45]) = true := decide_eq_true h
        rw [h1]
        rw [if_pos h] at hJ hs0
        walk_at "w"
        walk_at "d"
        walk_at "w"
        refine RS.dropS (i := 1) (by decide) hll ?_
        walk_at "w"
        refine RM.splitL (by decide) (by rw [List.length_drop]; omega) fun pw => ?_
        walk_at "d"
        refine Un.sub [(pw, .lst (sV (TL.spl [32] 0 [] (a.drop (1 : Int).toNat)))), (pr, .lst (zV (List.replicate ((100 : Int)).toNat 0)))] (by walk_at "sub") ?_
        exact ⟨pw, by rw [hs0], by rw [hJ]; rfl⟩
      · have h1 : decide (List.take (Int.toNat 1) a = [45]) = false := decide_eq_false h
        rw [h1]
        rw [if_neg h] at hJ hs0
        walk_at "w"
        refine Un.sub [(pw0, .lst (sV (TL.spl [32] 0 [] a))), (pr, .lst (zV (List.replicate ((100 : Int)).toNat 0)))] (by walk_at "sub") ?_
        exact ⟨pw0, by rw [hs0], by rw [hJ]⟩
    rintro σ f ⟨pw, rfl, rfl⟩
    have hjoin := join_spl 32 J []
    rw [List.nil_append] at hjoin
    have hWl : (TL.spl [32] 0 [] J).length ≤ 80001 := Nat.le_trans (spl_len 32 J []) (by omega)
    have hword : ∀ w ∈ TL.spl [32] 0 [] J, w.length ≤ 90000 := fun w hw => by
      obtain ⟨p, q, e⟩ := join_infix [32] hw
      rw [hjoin] at e
      have := congrArg List.length e
      simp only [List.length_append] at this
      omega
    refine N.swap ?_
    by_cases hwd : Wd a
    · obtain ⟨xs, hxt, hxl, hxw⟩ := hwd
      have hq := q xs hxt hxl hxw
      have hdx := hd xs hxt hxl hxw
      clear q qn hd
      by_cases h48 : a = [48]
      · have hx0 : xs = [] := by
          by_cases hne : tms xs xs.length = []
          · exact tms_nil hxt hxl hne
          · exfalso
            have etx : a = hs (tms xs xs.length) ++ TL.joinL [32] (words (tms xs xs.length)) := by
              rw [← hxw, wr_txt]; unfold txt; rw [if_neg hne]
            obtain ⟨b, r, hb⟩ : ∃ a r, tms xs xs.length = a :: r := by
              cases h : tms xs xs.length with
              | nil => exact absurd h hne
              | cons a r => exact ⟨a, r, rfl⟩
            obtain ⟨c, qq, hjc, hc48, hc45⟩ := join_head (r := r) (tms_pow xs xs.length (Nat.le_refl _) b (by rw [hb]; exact List.mem_cons_self)).2.2.2
            rw [hb, hjc, h48] at etx
            have ehs : hs (b :: r) = if b.1 < 0 then [45] else [] := rfl
            rw [ehs] at etx
            split at etx
            · exact absurd (List.cons.inj etx).1 (by decide)
            · exact hc48 (List.cons.inj etx).1.symm
        subst hx0 h48
        have e1 : J = [48] := by rw [hJ]; rfl
        have e2 : TL.spl [32] 0 [] J = [[48]] := by rw [e1]; rfl
        have ez : (List.replicate (100 : Int).toNat (0 : Int)).set 0 0 = List.replicate (100 : Int).toNat 0 := by decide
        rw [e2]
        walk_at "w"
        refine S.forR (n := 1) (fun k σ f => ∃ y2 y4 y5, σ = [some (.str (tx [48])), some (.ref pr), y2, some (.ref pw), y4, y5] ∧ (k = 0 → y2 = some (.int s0)) ∧ f = [(pr, .lst (zV (List.replicate ((100 : Int)).toNat 0))), (pw, .lst (sV [[48]]))]) ?_ ?_ ?_
        · walk_at "w"
          exact ⟨rfl, by omega, by omega, _, none, none, rfl, fun _ => rfl, rfl⟩
        · rintro k σ f hk ⟨y2, y4, y5, rfl, hy, rfl⟩
          have hk0 : k = 0 := by omega
          subst hk0
          rw [hy rfl]
          walk_at "d"
          walk_at "w"
          refine WC__law_term (a := [48]) (by decide) (fun hx r => ?_) (fun F R e hF r => ?_)
          · have ef : fg [48] 60 = 0 := by decide
            rw [ef]
            walk_at "d"
            walk_at "w"
            have hok : IntMulOk s0 0 := mulR (by decide) (by decide)
            walk_at "d"
            refine S.setL ?_
            walk_at "w"
            walk_at "set1"
            · rw [zV_length, List.length_replicate]; omega
            rw [Int.mul_zero, zV_set, show (0 : Int).toNat = 0 from rfl, ez]
            walk_at "d"
            refine Lp.sub [(pr, .lst (zV (List.replicate ((100 : Int)).toNat 0))), (pw, .lst (sV [[48]]))] (by walk_at "sub") ?_
            exact ⟨_, _, _, rfl, fun h => by omega, rfl⟩
          · have : 120 ∈ [48] := by rw [e]; simp
            exact absurd this (by decide)
        · rintro σ f ⟨y2, y4, y5, rfl, _, rfl⟩
          walk_at "w"
          refine WC__law_trim (by walk_at "rx") (by simp) fun pt => ?_
          rw [show trim (List.replicate (100 : Int).toNat (0 : Int)) = [] by decide]
          walk_at "d"
          walk_at "w"
          refine WC__law_written (xs := []) (by walk_at "rx") (by simp) BdL.nil ?_
          walk_at "w"
          exact NR.sub (hq pt) (by walk_at "sub")
      have hpow := tms_pow xs xs.length (Nat.le_refl _)
      have hdesc := tms_desc xs xs.length (Nat.le_refl _)
      have hfill := fill_trim hxt hxl
      have hne : tms xs xs.length ≠ [] := fun z => h48 (by rw [← hxw, wr_txt, z]; rfl)
      have htl := tms_len xs xs.length
      have hlen100 : (tms xs xs.length).length ≤ 100 := by omega
      have etx : a = hs (tms xs xs.length) ++ TL.joinL [32] (words (tms xs xs.length)) := by
        rw [← hxw, wr_txt]; unfold txt; rw [if_neg hne]
      have hdig : ∀ b ∈ tms xs xs.length, (TL.numL b.1.natAbs).length ≤ 60 := fun b hb => by
        obtain ⟨_, p1, p2, _⟩ := hpow b hb
        rw [p2]
        refine hdx _ ?_
        rw [List.getD_eq_getElem?_getD, List.getElem?_eq_getElem p1]
        exact List.getElem_mem p1
      have hbx : BdL 210 xs := fun x hx => by
        have h1 := hdx x hx
        have h2 := TL.numL_val x.natAbs
        have h3 := digitsVal_lt (k := (TL.numL x.natAbs).length) rfl (TL.numL_digits x.natAbs)
        rw [h2] at h3
        exact Nat.lt_of_lt_of_le h3 (Nat.le_trans (Nat.pow_le_pow_right (by decide) h1) (by decide))
      generalize tms xs xs.length = ts at hpow hdesc hfill hne hlen100 etx hdig
      obtain ⟨a0, ts', hts0⟩ : ∃ a r, ts = a :: r := by
        cases ts with
        | nil => exact absurd rfl hne
        | cons a r => exact ⟨a, r, rfl⟩
      have hwl := words_len hne
      have hsplit := words_split hne
      have key : J = TL.joinL [32] (words ts) ∧ s0 = sgi a0.1 := by
        obtain ⟨c, qq, hjc, hc48, hc45⟩ := join_head (r := ts') (hpow a0 (by rw [hts0]; exact List.mem_cons_self)).2.2.2
        rw [← hts0] at hjc
        have ehs : hs ts = if a0.1 < 0 then [45] else [] := by rw [hts0]; rfl
        rw [ehs] at etx
        unfold sgi
        by_cases hneg : a0.1 < 0
        · rw [if_pos hneg] at etx
          have ht1 : a.take 1 = [45] := by rw [etx]; rfl
          rw [if_pos ht1] at hJ hs0
          rw [if_pos hneg]
          exact ⟨by rw [hJ, etx]; rfl, hs0⟩
        · rw [if_neg hneg] at etx
          have ht1 : ¬ a.take 1 = [45] := by
            rw [etx, hjc]
            intro z
            exact hc45 (List.cons.inj (show c :: List.take 0 qq = [45] from z)).1
          rw [if_neg ht1] at hJ hs0
          rw [if_neg hneg]
          exact ⟨by rw [hJ, etx]; rfl, hs0⟩
      have hts1 : ts[0]? = some a0 := by rw [hts0]; rfl
      rw [key.1, hsplit] at hword ⊢
      walk_at "w"
      refine S.forR (n := ((words ts).length : Int)) (fun k σ f => ∃ s y4 y5, σ = [some (.str (tx a)), some (.ref pr), some (.int s), some (.ref pw), y4, y5] ∧ f = [(pr, .lst (zV (fill (ts.take ((k + 1) / 2))))), (pw, .lst (sV (words ts)))] ∧ (k % 2 = 0 → ∀ a, ts[k / 2]? = some a → s = sgi a.1)) ?_ ?_ ?_
      · walk_at "w"
        rw [sV_length]
        refine ⟨rfl, by omega, by omega, s0, none, none, rfl, rfl, fun _ a h => ?_⟩
        rw [hts1] at h
        rw [← Option.some.inj h, key.2]
      · rintro k σ f hk ⟨s, y4, y5, rfl, rfl, hs1⟩
        walk_at "d"
        walk_at "w"
        have hkl : k < (words ts).length := by omega
        by_cases hk2 : k % 2 = 0
        · obtain ⟨i, rfl⟩ : ∃ i, k = 2 * i := ⟨k / 2, by omega⟩
          have hi : i < ts.length := by omega
          obtain ⟨b, hb⟩ : ∃ a, ts[i]? = some a := ⟨_, List.getElem?_eq_getElem hi⟩
          have hbm := List.mem_of_getElem? hb
          obtain ⟨_, p1, p2, p3⟩ := hpow b hbm
          have hsa := hs1 hk2 b (by rw [show 2 * i / 2 = i by omega]; exact hb)
          have hat := (words_at ts i b hb).1
          obtain ⟨k1, k2⟩ := term_ok (n := b.1.natAbs) (p := b.2) (Int.natAbs_pos.mpr p3) (hdig b hbm) (by omega)
          rw [decide_eq_true (show ((2 * i : Nat) : Int) % 2 = 0 by omega)]
          have ef : fill (ts.take ((2 * i + 1 + 1) / 2)) = (fill (ts.take i)).set b.2 b.1 := by
            rw [show (2 * i + 1 + 1) / 2 = i + 1 by omega, List.take_add_one, hb]
            exact fill_snoc _ _
          have hok : IntMulOk s (b.1.natAbs : Int) := by
            rw [hsa]
            unfold sgi
            split
            · exact mulL (by decide) (by decide)
            · exact mulL (by decide) (by decide)
          rw [show (2 * i + 1) / 2 = i by omega]
          have hb100 : b.2 < 100 := by omega
          have fin : N (Lp H (fun k σ f => ∃ s y4 y5, σ = [some (.str (tx a)), some (.ref pr), some (.int s), some (.ref pw), y4, y5] ∧ f = [(pr, .lst (zV (fill (ts.take ((k + 1) / 2))))), (pw, .lst (sV (words ts)))] ∧ (k % 2 = 0 → ∀ a, ts[k / 2]? = some a → s = sgi a.1)) (2 * i + 1)) = N (Lp H (fun k σ f => ∃ s y4 y5, σ = [some (.str (tx a)), some (.ref pr), some (.int s), some (.ref pw), y4, y5] ∧ f = [(pr, .lst (zV (fill (ts.take ((k + 1) / 2))))), (pw, .lst (sV (words ts)))] ∧ (k % 2 = 0 → ∀ a, ts[k / 2]? = some a → s = sgi a.1)) (2 * i + 1)) := rfl
          walk_at "w"
          refine RW.ixL (by walk_at "rl") (atI_sV hat) ?_
          walk_at "w"
          refine WC__law_term (hword _ (List.mem_of_getElem? hat)) (fun hx r => ?_) (fun F R e hF r => ?_)
          · obtain ⟨e1, e2⟩ := k1 hx
            rw [e1]
            walk_at "d"
            walk_at "w"
            walk_at "d"
            refine S.setL ?_
            walk_at "w"
            walk_at "set1"
            · rw [zV_length, fill_len]; omega
            rw [hsa, sgi_mul, show (0 : Int).toNat = b.2 by rw [e2]; rfl, zV_set, ← ef]
            walk_at "d"
            refine Lp.sub [(pr, .lst (zV (fill (ts.take ((2 * i + 1 + 1) / 2))))), (pw, .lst (sV (words ts)))] (by walk_at "sub") ?_
            exact ⟨_, _, _, rfl, rfl, fun h => by omega⟩
          · obtain ⟨e1, e2⟩ := k2 F R e hF
            rw [e1, e2]
            walk_at "d"
            walk_at "w"
            walk_at "d"
            refine S.setL ?_
            walk_at "w"
            walk_at "set1"
            · rw [zV_length, fill_len]; omega
            rw [hsa, sgi_mul, show (((b.2 : Nat) : Int)).toNat = b.2 by simp, zV_set, ← ef]
            walk_at "d"
            refine Lp.sub [(pr, .lst (zV (fill (ts.take ((2 * i + 1 + 1) / 2))))), (pw, .lst (sV (words ts)))] (by walk_at "sub") ?_
            exact ⟨_, _, _, rfl, rfl, fun h => by omega⟩
        · obtain ⟨i, rfl⟩ : ∃ i, k = 2 * i + 1 := ⟨k / 2, by omega⟩
          have hi : i + 1 < ts.length := by omega
          obtain ⟨b, hb⟩ : ∃ a, ts[i + 1]? = some a := ⟨_, List.getElem?_eq_getElem hi⟩
          have hat := (words_at ts (i + 1) b hb).2 (by omega)
          rw [show 2 * (i + 1) - 1 = 2 * i + 1 by omega] at hat
          rw [decide_eq_false (show ¬ ((2 * i + 1 : Nat) : Int) % 2 = 0 by omega)]
          have ej : (2 * i + 1 + 1 + 1) / 2 = (2 * i + 1 + 1) / 2 := by omega
          walk_at "w"
          walk_at "d"
          walk_at "w"
          refine RW.ixL (by walk_at "rl") (atI_sV hat) ?_
          walk_at "w"
          by_cases hneg : b.1 < 0
          · have es : sg b.1 = [45] := by unfold sg; rw [if_pos hneg]
            rw [decide_eq_true es]
            walk_at "w"
            walk_at "d"
            walk_at "lp"
            refine ⟨-1, _, _, rfl, by rw [ej], fun _ c hc => ?_⟩
            rw [show (2 * i + 1 + 1) / 2 = i + 1 by omega, hb] at hc
            rw [← Option.some.inj hc]
            unfold sgi; rw [if_pos hneg]
          · have es : ¬ sg b.1 = [45] := by unfold sg; rw [if_neg hneg]; decide
            rw [decide_eq_false es]
            walk_at "w"
            walk_at "lp"
            refine ⟨1, _, _, rfl, by rw [ej], fun _ c hc => ?_⟩
            rw [show (2 * i + 1 + 1) / 2 = i + 1 by omega, hb] at hc
            rw [← Option.some.inj hc]
            unfold sgi; rw [if_neg hneg]
      · rintro σ f ⟨s, y4, y5, rfl, rfl, hs1⟩
        rw [show (((words ts).length : Int)).toNat = (words ts).length by simp, show ((words ts).length + 1) / 2 = ts.length by omega, List.take_length]
        walk_at "w"
        refine WC__law_trim (by walk_at "rx") (by rw [fill_len]; omega) fun pt => ?_
        rw [hfill]
        walk_at "d"
        walk_at "w"
        refine WC__law_written (xs := xs) (by walk_at "rx") (by omega) hbx ?_
        walk_at "w"
        rw [decide_eq_true hxw]
        walk_at "w"
        exact NR.sub (hq pt) (by walk_at "sub")
    · have hqn := qn hwd
      clear q qn hd
      generalize hW : TL.spl [32] 0 [] J = W at hjoin hWl hword
      walk_at "w"
      refine S.forR (n := (W.length : Int)) (fun k σ f => ∃ (s : Int) (rl : List Int) (y4 y5 : Option V), σ = [some (.str (tx a)), some (.ref pr), some (.int s), some (.ref pw), y4, y5] ∧ f = [(pr, .lst (zV rl)), (pw, .lst (sV W))] ∧ (s = 1 ∨ s = -1) ∧ rl.length = 100 ∧ BdL 200 rl) ?_ ?_ ?_
      · walk_at "w"
        rw [sV_length]
        exact ⟨rfl, by omega, by omega, s0, _, none, none, rfl, rfl, hs01, by simp, fun x hx => by rw [(List.mem_replicate.mp hx).2]; exact Bd.zero⟩
      · rintro k σ f hk ⟨s, rl, y4, y5, rfl, rfl, hs, hrl, hrb⟩
        have hkl : k < W.length := by omega
        have hWk : W[k]? = some W[k] := List.getElem?_eq_getElem hkl
        have hwm := List.mem_of_getElem? hWk
        walk_at "d"
        walk_at "w"
        by_cases hk2 : (k : Int) % 2 = 0
        · rw [decide_eq_true hk2]
          walk_at "w"
          refine RW.ixL (by walk_at "rl") (atI_sV hWk) ?_
          walk_at "w"
          have main : ∀ (n0 p0 : Int) (r : Addr), n0 < 10 ^ 60 → p0 < 100 → True := fun _ _ _ _ _ => trivial
          refine WC__law_term (hword _ hwm) (fun hx r => ?_) (fun F R e hF r => ?_)
          · have hn := fg_bd W[k] (m := 60)
            generalize fg W[k] 60 = n0 at hn
            walk_at "d"
            walk_at "w"
            by_cases hn0 : n0 < 0
            · rw [decide_eq_true hn0]
              walk_at "w"
              exact NR.sub hqn (by walk_at "sub")
            · rw [decide_eq_false hn0]
              walk_at "w"
              obtain ⟨b1, b2⟩ := ten60 hn (by omega) hs
              walk_at "d"
              refine S.setL ?_
              walk_at "w"
              walk_at "set1"
              · rw [zV_length, hrl]; omega
              rw [zV_set]
              walk_at "d"
              refine Lp.sub [(pr, .lst (zV (rl.set (0 : Int).toNat (s * n0)))), (pw, .lst (sV W))] (by walk_at "sub") ?_
              refine ⟨_, _, _, _, rfl, rfl, hs, by rw [List.length_set]; exact hrl, fun x hx => ?_⟩
              rcases List.mem_or_eq_of_mem_set hx with h | h
              · exact hrb x h
              · rw [h]; exact b1
          · have hn := tnum_bd F
            have hp := tpow_bd R
            generalize tnum F = n0 at hn
            generalize tpow R = p0 at hp
            walk_at "d"
            walk_at "w"
            by_cases hn0 : n0 < 0
            · rw [decide_eq_true hn0]
              walk_at "w"
              exact NR.sub hqn (by walk_at "sub")
            · rw [decide_eq_false hn0]
              walk_at "w"
              by_cases hp0 : p0 < 0
              · rw [decide_eq_true hp0]
                walk_at "w"
                exact NR.sub hqn (by walk_at "sub")
              · rw [decide_eq_false hp0]
                walk_at "w"
                obtain ⟨b1, b2⟩ := ten60 hn (by omega) hs
                walk_at "d"
                refine S.setL ?_
                walk_at "w"
                walk_at "set1"
                · rw [zV_length, hrl]; omega
                rw [zV_set]
                walk_at "d"
                refine Lp.sub [(pr, .lst (zV (rl.set p0.toNat (s * n0)))), (pw, .lst (sV W))] (by walk_at "sub") ?_
                refine ⟨_, _, _, _, rfl, rfl, hs, by rw [List.length_set]; exact hrl, fun x hx => ?_⟩
                rcases List.mem_or_eq_of_mem_set hx with h | h
                · exact hrb x h
                · rw [h]; exact b1
        · rw [decide_eq_false hk2]
          walk_at "w"
          walk_at "d"
          walk_at "w"
          refine RW.ixL (by walk_at "rl") (atI_sV hWk) ?_
          walk_at "w"
          by_cases h45 : W[k] = [45]
          · rw [decide_eq_true h45]
            walk_at "w"
            walk_at "d"
            walk_at "lp"
            exact ⟨_, _, _, _, rfl, rfl, .inr rfl, hrl, hrb⟩
          · rw [decide_eq_false h45]
            walk_at "w"
            walk_at "lp"
            exact ⟨_, _, _, _, rfl, rfl, .inl rfl, hrl, hrb⟩
      · rintro σ f ⟨s, rl, y4, y5, rfl, rfl, hs, hrl, hrb⟩
        walk_at "w"
        refine WC__law_trim (by walk_at "rx") (by omega) fun pt => ?_
        have htl := trim_length_le rl
        walk_at "d"
        walk_at "w"
        refine WC__law_written (xs := trim rl) (by walk_at "rx") (by omega) (hrb.trim.mono (by omega)) ?_
        walk_at "w"
        rw [decide_eq_false (show ¬ wr (trim rl) = a from fun e => hwd ⟨_, tr_trim _, by omega, e⟩)]
        walk_at "w"
        exact NR.sub hqn (by walk_at "sub")

end

section
variable {P : Program} {w : World} {K : PySem.W.Frag} {mg : Str → Option Value} {base : Heap}
/-- the odd lines -/
def odds : List (List Nat) := [[], [48], [45, 48], [48, 48], [43, 49], [49, 120], [45, 49, 120], [120, 94, 49], [120, 94, 48], [50, 120, 94, 48], [120, 94, 48, 49], [120, 94, 49, 48, 48], [120, 94, 45, 49], [120, 94], [94, 50], [88], [120, 32, 43, 32, 48], [48, 120], [120, 32, 43, 32, 120], [49, 32, 43, 32, 120], [120, 94, 50, 32, 43, 32, 120, 94, 51], [120, 32, 43, 49], [120, 43, 49], [32, 120], [120, 32], [120, 32, 32, 43, 32, 49], [120, 32, 43, 32, 45, 49], [120, 32, 45, 32, 45, 49], [45, 45, 120], [45, 32, 120], [50, 42, 120], [120, 94, 50, 94, 50], [120, 32, 43], [120, 32, 45], [49, 32, 43], [51, 120, 94, 50, 32, 45, 32, 120, 32, 45], [120, 94, 50, 32, 120], [45]]
theorem odds_len : ∀ a ∈ odds, a.length ≤ 20 := by decide +kernel
def sp__law_odd : Sp := fun vs H Q _ => ∃ (c : Int), vs = [.int c] ∧ ∀ a ∈ odds, NR Q (.str (tx a)) H []
theorem WC__law_odd {H0 : Hp} {fs : Fs} {Φ : CV} {c : Int} (q : ∀ a ∈ odds, Φ (.str (tx a)) fs) : WC sp__law_odd [.int c] H0 fs Φ := fun H k Q E cc => ⟨c, rfl, fun a ha H' k' => cc _ _ _ (k.app k') (q a ha)⟩
theorem ok__law_odd (T : Txt K mg) : FnOk P w K mg base CX0 1 T.a__law_odd T.d__law_odd ["_law_cell"] sp__law_odd := by
  refine T.F__law_odd.ok sc__law_odd (fun vs H Q E h => ?_) (fun cdv A outer s H vs Q E hr h => ?_)
  · obtain ⟨c, rfl, _⟩ := h; rfl
  · obtain ⟨c, rfl, q⟩ := h
    refine ⟨_, (pss_cons (ps_set (i := 1) sc__law_odd.nd rfl (Or.inl rfl) (pe_lst (pa_cons (pe_strL (l := []) (by decide +kernel)) (pa_cons (pe_strL (l := [48]) (by decide +kernel)) (pa_cons (pe_strL (l := [45, 48]) (by decide +kernel)) (pa_cons (pe_strL (l := [48, 48]) (by decide +kernel)) (pa_cons (pe_strL (l := [43, 49]) (by decide +kernel)) (pa_cons (pe_strL (l := [49, 120]) (by decide +kernel)) (pa_cons (pe_strL (l := [45, 49, 120]) (by decide +kernel)) (pa_cons (pe_strL (l := [120, 94, 49]) (by decide +kernel)) (pa_cons (pe_strL (l := [120, 94, 48]) (by decide +kernel)) (pa_cons (pe_strL (l := [50, 120, 94, 48]) (by decide +kernel)) (pa_cons (pe_strL (l := [120, 94, 48, 49]) (by decide +kernel)) (pa_cons (pe_strL (l := [120, 94, 49, 48, 48]) (by decide +kernel)) (pa_cons (pe_strL (l := [120, 94, 45, 49]) (by decide +kernel)) (pa_cons (pe_strL (l := [120, 94]) (by decide +kernel)) (pa_cons (pe_strL (l := [94, 50]) (by decide +kernel)) (pa_cons (pe_strL (l := [88]) (by decide +kernel)) pa_nil))))))))))))))))))
      (pss_cons (ps_set (i := 1) sc__law_odd.nd rfl (Or.inl rfl) (pe_op op_cat (pv 1) (pe_lst (pa_cons (pe_strL (l := [120, 32, 43, 32, 48]) (by decide +kernel)) (pa_cons (pe_strL (l := [48, 120]) (by decide +kernel)) (pa_cons (pe_strL (l := [120, 32, 43, 32, 120]) (by decide +kernel)) (pa_cons (pe_strL (l := [49, 32, 43, 32, 120]) (by decide +kernel)) (pa_cons (pe_strL (l := [120, 94, 50, 32, 43, 32, 120, 94, 51]) (by decide +kernel)) (pa_cons (pe_strL (l := [120, 32, 43, 49]) (by decide +kernel)) (pa_cons (pe_strL (l := [120, 43, 49]) (by decide +kernel)) (pa_cons (pe_strL (l := [32, 120]) (by decide +kernel)) (pa_cons (pe_strL (l := [120, 32]) (by decide +kernel)) (pa_cons (pe_strL (l := [120, 32, 32, 43, 32, 49]) (by decide +kernel)) (pa_cons (pe_strL (l := [120, 32, 43, 32, 45, 49]) (by decide +kernel)) pa_nil))))))))))))))
      (pss_cons (ps_set (i := 1) sc__law_odd.nd rfl (Or.inl rfl) (pe_op op_cat (pv 1) (pe_lst (pa_cons (pe_strL (l := [120, 32, 45, 32, 45, 49]) (by decide +kernel)) (pa_cons (pe_strL (l := [45, 45, 120]) (by decide +kernel)) (pa_cons (pe_strL (l := [45, 32, 120]) (by decide +kernel)) (pa_cons (pe_strL (l := [50, 42, 120]) (by decide +kernel)) (pa_cons (pe_strL (l := [120, 94, 50, 94, 50]) (by decide +kernel)) (pa_cons (pe_strL (l := [120, 32, 43]) (by decide +kernel)) (pa_cons (pe_strL (l := [120, 32, 45]) (by decide +kernel)) (pa_cons (pe_strL (l := [49, 32, 43]) (by decide +kernel)) (pa_cons (pe_strL (l := [51, 120, 94, 50, 32, 45, 32, 120, 32, 45]) (by decide +kernel)) (pa_cons (pe_strL (l := [120, 94, 50, 32, 120]) (by decide +kernel)) (pa_cons (pe_strL (l := [45]) (by decide +kernel)) pa_nil))))))))))))))
      (pss_one (ps_ret (pe_ix ix_list (pv 1) (pe_op op_mod (pv 0) pe_int) (fun _ _ => rfl))))))), ?_⟩
    refine N.go (σ := [some (.int c), none]) ?_
    walk_at "w"
    refine ⟨by simp, fun l1 => ?_⟩
    walk_at "d"
    walk_at "w"
    refine ⟨by simp, fun l2 => ?_⟩
    refine RW.cat (by walk_at "rx") (by walk_at "rx") (by simp) fun l3 => ?_
    walk_at "d"
    walk_at "w"
    refine ⟨by simp, fun l4 => ?_⟩
    refine RW.cat (by walk_at "rx") (by walk_at "rx") (by simp) fun l5 => ?_
    walk_at "d"
    walk_at "w"
    obtain ⟨n, hn⟩ := Int.eq_ofNat_of_zero_le (show 0 ≤ c % 38 by omega)
    rw [hn]
    have hn38 : n < odds.length := by
      show n < 38
      omega
    refine RW.ixL (xs := sV odds) (by walk_at "rl") (atI_sV (List.getElem?_eq_getElem hn38)) ?_
    exact NR.sub (q _ (List.getElem_mem hn38)) (by walk_at "sub")

end

section
variable {P : Program} {w : World} {K : PySem.W.Frag} {mg : Str → Option Value} {base : Heap}
/-- the signs -/
def sgAll : List Nat := [32, 33, 34, 35, 36, 38, 39, 40, 41, 42, 43, 44, 45, 46, 47, 48, 49, 50, 51, 52, 53, 54, 55, 56, 57, 58, 59, 60, 61, 62, 63, 64, 65, 66, 67, 68, 69, 70, 71, 72, 73, 74, 75, 76, 77, 78, 79, 80, 81, 82, 83, 84, 85, 86, 87, 88, 89, 90, 91, 92, 93, 94, 95, 96] ++ [97, 98, 99, 100, 101, 102, 103, 104, 105, 106, 107, 108, 109, 110, 111, 112, 113, 114, 115, 116, 117, 118, 119, 120, 121, 122, 123, 124, 125, 126, 10, 9]
def sgFew : List Nat := [48, 49, 50, 51, 52, 53, 54, 55, 56, 57, 120, 94, 43, 45, 32]
theorem sgAll_lt : ∀ c ∈ sgAll, c < 128 := by decide +kernel
theorem sgFew_lt : ∀ c ∈ sgFew, c < 128 := by decide +kernel
def sp__law_sign : Sp := fun vs H Q _ => ∃ (c : Int), vs = [.int c] ∧ ∀ n, n < 128 → NR Q (.str (tx [n])) H []
theorem WC__law_sign {H0 : Hp} {fs : Fs} {Φ : CV} {c : Int} (q : ∀ n, n < 128 → Φ (.str (tx [n])) fs) : WC sp__law_sign [.int c] H0 fs Φ := fun H k Q E cc => ⟨c, rfl, fun n hn H' k' => cc _ _ _ (k.app k') (q n hn)⟩
theorem ok__law_sign (T : Txt K mg) : FnOk P w K mg base CX0 1 T.a__law_sign T.d__law_sign ["_law_cell"] sp__law_sign := by
  refine T.F__law_sign.ok sc__law_sign (fun vs H Q E h => ?_) (fun cdv A outer s H vs Q E hr h => ?_)
  · obtain ⟨c, rfl, _⟩ := h; rfl
  · obtain ⟨c, rfl, q⟩ := h
    refine ⟨_, (pss_cons (ps_set (i := 1) sc__law_sign.nd rfl (Or.inl rfl) (pe_strL (l := [32, 33, 34, 35, 36, 38, 39, 40, 41, 42, 43, 44, 45, 46, 47, 48, 49, 50, 51, 52, 53, 54, 55, 56, 57, 58, 59, 60, 61, 62, 63, 64, 65, 66, 67, 68, 69, 70, 71, 72, 73, 74, 75, 76, 77, 78, 79, 80, 81, 82, 83, 84, 85, 86, 87, 88, 89, 90, 91, 92, 93, 94, 95, 96]) (by decide +kernel)))
      (pss_cons (ps_set (i := 1) sc__law_sign.nd rfl (Or.inl rfl) (pe_op op_addX (pv 1) (pe_strL (l := [97, 98, 99, 100, 101, 102, 103, 104, 105, 106, 107, 108, 109, 110, 111, 112, 113, 114, 115, 116, 117, 118, 119, 120, 121, 122, 123, 124, 125, 126, 10, 9]) (by decide +kernel))))
      (pss_cut (ps_if (pt_cmpR op_eq (pe_op op_mod (pv 0) pe_int) pe_int (nomark _)) (pss_one (ps_set (i := 1) sc__law_sign.nd rfl (Or.inl rfl) (pe_strL (l := [48, 49, 50, 51, 52, 53, 54, 55, 56, 57, 120, 94, 43, 45, 32]) (by decide +kernel)))) pss_nil)
      (pss_one (ps_ret (pe_ix ix_str (pv 1) (pe_op op_mod (pe_op op_fdiv (pv 0) pe_int) (pe_callB cLenS (by rfl) T.z_len PySem.boot_len (pa_cons (pv 1) pa_nil))) (fun _ _ => rfl))))))), ?_⟩
    refine N.go (σ := [some (.int c), none]) ?_
    walk_at "w"
    walk_at "d"
    walk_at "w"
    refine RW.addS (by decide) ?_
    walk_at "d"
    refine S.cut (fun σ f => ∃ a : List Nat, σ = [some (.int c), some (.str (tx a))] ∧ f = [] ∧ 0 < a.length ∧ a.length ≤ 1000 ∧ ∀ n ∈ a, n < 128) ?_ ?_
    · walk_at "w"
      walk_at "if"
      · walk_at "w"
        walk_at "d"
        walk_at "un"
        exact ⟨sgFew, rfl, rfl, by decide, by decide, sgFew_lt⟩
      · walk_at "w"
        walk_at "un"
        exact ⟨sgAll, rfl, rfl, by decide, by decide, sgAll_lt⟩
    rintro σ f ⟨a, rfl, rfl, h0, h1, h2⟩
    have hll : a.length ≤ 1000000 := by omega
    walk_at "w"
    have e0 := Int.emod_nonneg (c / 2) (show (a.length : Int) ≠ 0 by omega)
    have e1 := Int.emod_lt_of_pos (c / 2) (show (0 : Int) < (a.length : Int) by omega)
    obtain ⟨n, hn⟩ := Int.eq_ofNat_of_zero_le e0
    rw [hn] at e1 ⊢
    have hnl : n < a.length := by omega
    refine RW.ixC (c := a[n]) hll (atI_nat (List.getElem?_eq_getElem hnl)) ?_
    exact NR.sub (q _ (h2 _ (List.getElem_mem hnl))) (by walk_at "sub")
theorem len__law_sign : ∀ (vs : List V) (H : Hp) (Q : VK) (E : XK), sp__law_sign vs H Q E → vs.length = 1 := fun vs H Q E h => by
  obtain ⟨c, rfl, _⟩ := h; rfl
/-- .. and its answer is a text of its own -/
theorem tk__law_sign (T : Txt K mg) : FnTk P w K mg base 1 T.a__law_sign T.d__law_sign ["_law_cell"] sp__law_sign := by
  refine fn_tk T.F__law_sign sc__law_sign len__law_sign (fun cdv A outer s H vs Q E hr h => ?_)
  · obtain ⟨c, rfl, q⟩ := h
    refine ⟨_, fun n => (bkN_cons (fun _ _ _ h => h) (ps_set (i := 1) sc__law_sign.nd rfl (Or.inl rfl) (pe_strL (l := [32, 33, 34, 35, 36, 38, 39, 40, 41, 42, 43, 44, 45, 46, 47, 48, 49, 50, 51, 52, 53, 54, 55, 56, 57, 58, 59, 60, 61, 62, 63, 64, 65, 66, 67, 68, 69, 70, 71, 72, 73, 74, 75, 76, 77, 78, 79, 80, 81, 82, 83, 84, 85, 86, 87, 88, 89, 90, 91, 92, 93, 94, 95, 96]) (by decide +kernel)))
      (bkN_cons (fun _ _ _ h => h) (ps_set (i := 1) sc__law_sign.nd rfl (Or.inl rfl) (pe_op op_addX (pv 1) (pe_strL (l := [97, 98, 99, 100, 101, 102, 103, 104, 105, 106, 107, 108, 109, 110, 111, 112, 113, 114, 115, 116, 117, 118, 119, 120, 121, 122, 123, 124, 125, 126, 10, 9]) (by decide +kernel))))
      (bkN_cut (fun _ _ _ h => h) (ps_if (pt_cmpR op_eq (pe_op op_mod (pv 0) pe_int) pe_int (nomark _)) (pss_one (ps_set (i := 1) sc__law_sign.nd rfl (Or.inl rfl) (pe_strL (l := [48, 49, 50, 51, 52, 53, 54, 55, 56, 57, 120, 94, 43, 45, 32]) (by decide +kernel)))) pss_nil)
      (bkN_ret (pv 1) (pe_op op_mod (pe_op op_fdiv (pv 0) pe_int) (pe_callB cLenS (by rfl) T.z_len PySem.boot_len (pa_cons (pv 1) pa_nil))) (fun _ _ => rfl))))), ?_⟩
    refine N.go (σ := [some (.int c), none]) ?_
    walk_at "w"
    walk_at "d"
    walk_at "w"
    refine RW.addS (by decide) ?_
    walk_at "d"
    refine S.cut (fun σ f => ∃ a : List Nat, σ = [some (.int c), some (.str (tx a))] ∧ f = [] ∧ 0 < a.length ∧ a.length ≤ 1000 ∧ ∀ n ∈ a, n < 128) ?_ ?_
    · walk_at "w"
      walk_at "if"
      · walk_at "w"
        walk_at "d"
        walk_at "un"
        exact ⟨sgFew, rfl, rfl, by decide, by decide, sgFew_lt⟩
      · walk_at "w"
        walk_at "un"
        exact ⟨sgAll, rfl, rfl, by decide, by decide, sgAll_lt⟩
    rintro σ f ⟨a, rfl, rfl, h0, h1, h2⟩
    have hll : a.length ≤ 1000000 := by omega
    walk_at "w"
    have e0 := Int.emod_nonneg (c / 2) (show (a.length : Int) ≠ 0 by omega)
    have e1 := Int.emod_lt_of_pos (c / 2) (show (0 : Int) < (a.length : Int) by omega)
    obtain ⟨n, hn⟩ := Int.eq_ofNat_of_zero_le e0
    rw [hn] at e1 ⊢
    have hnl : n < a.length := by omega
    refine RW.ixC (c := a[n]) hll (atI_nat (List.getElem?_eq_getElem hnl)) ?_
    exact NR.sub (q _ (h2 _ (List.getElem_mem hnl))) (by walk_at "sub")

end

section
variable {P : Program} {w : World} {K : PySem.W.Frag} {mg : Str → Option Value} {base : Heap}
/-- a line with one sign put in, left out, or another in the place of one -/
def Tu (a b : List Nat) : Prop := ∃ p, p ≤ a.length ∧ ((∃ c, c < 128 ∧ b = a.take p ++ [c] ++ a.drop p) ∨ b = a.take p ++ a.drop (p + 1) ∨ ∃ c, c < 128 ∧ b = a.take p ++ [c] ++ a.drop (p + 1))
def sp__law_turned : Sp := fun vs H Q _ => ∃ (a : List Nat) (c s : Int), vs = [.str (tx a), .int c, .int s] ∧ a.length ≤ 80000 ∧ ∀ b, Tu a b → NR Q (.str (tx b)) H []
theorem WC__law_turned {H0 : Hp} {fs : Fs} {Φ : CV} {a : List Nat} {c s : Int} (hl : a.length ≤ 80000) (q : ∀ b, Tu a b → Φ (.str (tx b)) fs) : WC sp__law_turned [.str (tx a), .int c, .int s] H0 fs Φ := fun H k Q E cc => ⟨a, c, s, rfl, hl, fun b hb H' k' => cc _ _ _ (k.app k') (q b hb)⟩
theorem ok__law_turned (T : Txt K mg) : FnOk P w K mg base CX0 2 T.a__law_turned T.d__law_turned ["_law_line", "_law_cell", "_law_spot"] sp__law_turned := by
  refine T.F__law_turned.ok sc__law_turned (fun vs H Q E h => ?_) (fun cdv A outer s H vs Q E hr h => ?_)
  · obtain ⟨a, c, s, rfl, _⟩ := h; rfl
  · obtain ⟨a, c, sp, rfl, hl, q⟩ := h
    refine ⟨_, (pss_cons (ps_set (i := 3) sc__law_turned.nd rfl (Or.inl rfl) (pe_call (ok__law_sign T) (hr.mono (by decide)) (by rfl) T.m__law_sign T.F__law_sign.kp T.b__law_sign .nil pass0 (pa_cons (pe_op op_fdiv (pv 1) pe_int) pa_nil)))
      (pss_cons (ps_set (i := 4) sc__law_turned.nd rfl (Or.inl rfl) (pe_op op_mod (pv 2) (pe_op op_add (pe_callB cLenS (by rfl) T.z_len PySem.boot_len (pa_cons (pv 0) pa_nil)) pe_int)))
      (pss_cons (ps_if (pt_cmpR op_eq (pe_op op_mod (pv 1) pe_int) pe_int (nomark _)) (pss_one (ps_ret (pe_op op_addX (pe_op op_addX (pe_slice sl_strR (pv 0) po_none (po_some (pv 4))) (pv 3)) (pe_slice sl_strR (pv 0) (po_some (pv 4)) po_none)))) pss_nil)
      (pss_cons (ps_if (pt_cmpR op_eq (pe_op op_mod (pv 1) pe_int) pe_int (nomark _)) (pss_one (ps_ret (pe_op op_addX (pe_slice sl_strR (pv 0) po_none (po_some (pv 4))) (pe_slice sl_strR (pv 0) (po_some (pe_op op_add (pv 4) pe_int)) po_none)))) pss_nil)
      (pss_one (ps_ret (pe_op op_addX (pe_op op_addX (pe_slice sl_strR (pv 0) po_none (po_some (pv 4))) (pv 3)) (pe_slice sl_strR (pv 0) (po_some (pe_op op_add (pv 4) pe_int)) po_none)))))))), ?_⟩
    refine N.go (σ := [some (.str (tx a)), some (.int c), some (.int sp), none, none]) ?_
    have hll : a.length ≤ 1000000 := by omega
    walk_at "w"
    refine WC__law_sign fun n hn => ?_
    walk_at "d"
    walk_at "w"
    have e0 := Int.emod_nonneg sp (show (a.length : Int) + 1 ≠ 0 by omega)
    have e1 := Int.emod_lt_of_pos sp (show (0 : Int) < (a.length : Int) + 1 by omega)
    obtain ⟨p, hp⟩ := Int.eq_ofNat_of_zero_le e0
    rw [hp] at e1 ⊢
    have hpl : p ≤ a.length := by omega
    have et : ((p : Int)).toNat = p := by simp
    have et1 : ((p : Int) + 1).toNat = p + 1 := by omega
    walk_at "d"
    walk_at "w"
    walk_at "if"
    · walk_at "w"
      refine RS.takeS (by omega) hll ?_
      rw [et]
      walk_at "w"
      refine RW.addS (by simp; omega) ?_
      walk_at "w"
      refine RS.dropS (by omega) hll ?_
      rw [et]
      refine RW.addS (by simp; omega) ?_
      exact NR.sub (q _ ⟨p, hpl, .inl ⟨n, hn, rfl⟩⟩) (by walk_at "sub")
    · walk_at "w"
      walk_at "if"
      · walk_at "w"
        refine RS.takeS (by omega) hll ?_
        rw [et]
        walk_at "w"
        refine RS.dropS (by omega) hll ?_
        rw [et1]
        refine RW.addS (by simp; omega) ?_
        exact NR.sub (q _ ⟨p, hpl, .inr (.inl rfl)⟩) (by walk_at "sub")
      · walk_at "w"
        refine RS.takeS (by omega) hll ?_
        rw [et]
        walk_at "w"
        refine RW.addS (by simp; omega) ?_
        walk_at "w"
        refine RS.dropS (by omega) hll ?_
        rw [et1]
        refine RW.addS (by simp; omega) ?_
        exact NR.sub (q _ ⟨p, hpl, .inr (.inr ⟨n, hn, rfl⟩)⟩) (by walk_at "sub")

end

section
variable {P : Program} {w : World} {K : PySem.W.Frag} {mg : Str → Option Value} {base : Heap}
/-- the class of each refusal -/
def cl7 (a b c d e f g : Addr) (w : Nat) : Addr := match w with
  | 0 => a
  | 1 => b
  | 2 => c
  | 3 => d
  | 4 => e
  | 5 => f
  | _ => g
theorem not_half : ∀ q, ¬ Whole [1] [2] q := fun q h => by
  have e := congrFun h.2 0
  rw [Ser.mul_zero_at] at e
  have e1 : S [1] 0 = 1 := rfl
  have e2 : S [2] 0 = 2 := rfl
  rw [e1, e2] at e
  omega
theorem rn_nil : Rn 640 [] := fun p w q e _ => by
  have := congrArg List.length e
  simp at this
  omega
theorem nwd_nil : ¬ Wd [] := fun ⟨xs, _, _, h⟩ => by
  unfold wr at h
  split at h
  · cases h
  · rename_i h0
    exact h0 h
def sp__law_refuseX (C : Nat → Addr) : Sp := fun vs H Q E => ∃ w : Nat, w < 7 ∧ vs = [.int (w : Int)] ∧ NE E (.ref (C w)) none H []
theorem WC__law_refuseX {C : Nat → Addr} {H0 : Hp} {fs : Fs} {Ψ : Value → Option Addr → Fs → Prop} {w : Nat} (hw : w < 7) (q : Ψ (.ref (C w)) none fs) : WCX (sp__law_refuseX C) [.int (w : Int)] H0 fs Ψ :=
  fun H k Q E c => ⟨w, hw, rfl, fun H' k' => c _ _ _ _ (k.app k') q⟩
-- ok_madeX ok_raisedX ok_quotientX ok_meetX ok_partsX ok_readX
theorem okX__law_refuse (T : Txt K mg) : FnOk P w K mg base (L2.CX P w) 8 T.a__law_refuse T.d__law_refuse ["_law_which"] (sp__law_refuseX (cl7 T.A_NoNumber T.A_NoPower T.A_ByNought T.A_NotWhole T.A_NoMeet T.A_NoParts T.A_NotWritten)) := by
  refine T.F__law_refuse.okX sc__law_refuse (fun vs H Q E h => ?_) (fun cdv A outer s H vs Q E hr h => ?_)
  · obtain ⟨w, _, rfl, _⟩ := h; rfl
  · obtain ⟨w, hw, rfl, q⟩ := h
    refine ⟨_, (pss_cons (ps_if (pt_cmpR op_eq (pv 0) pe_int (nomark _)) (pss_one (ps_ret (pe_callS (okX_made T) (hr.mono (by decide)) (by rfl) T.m_made T.F_made.kp T.b_made (fun σ => passAt (takes_of rfl rfl rfl rfl) σ) (pa_cons (pe_lst (pa_cons pe_non pa_nil)) pa_nil)))) pss_nil)
      (pss_cons (ps_if (pt_cmpR op_eq (pv 0) pe_int (nomark _)) (pss_one (ps_ret (pe_callS (okX_raised T) (hr.mono (by decide)) (by rfl) T.m_raised T.F_raised.kp T.b_raised (fun σ => passAt (takes_of rfl rfl rfl rfl) σ) (pa_cons (pe_lst (pa_cons pe_int pa_nil)) (pa_cons (pe_un un_neg pe_int) pa_nil))))) pss_nil)
      (pss_cons (ps_if (pt_cmpR op_eq (pv 0) pe_int (nomark _)) (pss_one (ps_ret (pe_callS (okX_quotient T) (hr.mono (by decide)) (by rfl) T.m_quotient T.F_quotient.kp T.b_quotient (fun σ => passAt (takes_of rfl rfl rfl rfl) σ) (pa_cons (pe_lst (pa_cons pe_int pa_nil)) (pa_cons (pe_lst pa_nil) pa_nil))))) pss_nil)
      (pss_cons (ps_if (pt_cmpR op_eq (pv 0) pe_int (nomark _)) (pss_one (ps_ret (pe_callS (okX_quotient T) (hr.mono (by decide)) (by rfl) T.m_quotient T.F_quotient.kp T.b_quotient (fun σ => passAt (takes_of rfl rfl rfl rfl) σ) (pa_cons (pe_lst (pa_cons pe_int pa_nil)) (pa_cons (pe_lst (pa_cons pe_int pa_nil)) pa_nil))))) pss_nil)
      (pss_cons (ps_if (pt_cmpR op_eq (pv 0) pe_int (nomark _)) (pss_one (ps_ret (pe_callS (okX_meet T) (hr.mono (by decide)) (by rfl) T.m_meet T.F_meet.kp T.b_meet (fun σ => passAt (takes_of rfl rfl rfl rfl) σ) (pa_cons (pe_lst pa_nil) (pa_cons (pe_lst pa_nil) pa_nil))))) pss_nil)
      (pss_cons (ps_if (pt_cmpR op_eq (pv 0) pe_int (nomark _)) (pss_one (ps_ret (pe_callS (okX_parts T) (hr.mono (by decide)) (by rfl) T.m_parts T.F_parts.kp T.b_parts (fun σ => passAt (takes_of rfl rfl rfl rfl) σ) (pa_cons (pe_lst pa_nil) pa_nil)))) pss_nil)
      (pss_one (ps_ret (pe_callS (okX_read T) (hr.mono (by decide)) (by rfl) T.m_read T.F_read.kp T.b_read (fun σ => passAt (takes_of rfl rfl rfl rfl) σ) (pa_cons (pe_strL (l := []) (by decide +kernel)) pa_nil)))))))))), ?_⟩
    refine N.go (σ := [some (.int (w : Int))]) ?_
    have h7 : w = 0 ∨ w = 1 ∨ w = 2 ∨ w = 3 ∨ w = 4 ∨ w = 5 ∨ w = 6 := by omega
    rcases h7 with rfl | rfl | rfl | rfl | rfl | rfl | rfl
    · walk_at "w"
      refine W.callX ?_
      refine WA.cons ?_
      refine W.lst ?_
      walk_at "w"
      refine ⟨by simp, fun l => ?_⟩
      walk_at "w"
      refine WCL_madeX (xs := []) (ys := []) (v := .non) (Rl.x (Rx.own (.head _))) (fun _ => .inr (.inl rfl)) ?_
      exact fun H' k => q H' (k.sub (by walk_at "sub"))
    · walk_at "w"
      refine W.callX ?_
      walk_at "w"
      intro l
      walk_at "w"
      refine WC_raisedX (by decide) ?_
      exact fun H' k => q H' (k.sub (by walk_at "sub"))
    · walk_at "w"
      refine W.callX ?_
      walk_at "w"
      intro l
      walk_at "w"
      intro l2
      walk_at "w"
      refine WCX1_quotientX (by walk_at "rx") ?_
      exact fun H' k => q H' (k.sub (by walk_at "sub"))
    · walk_at "w"
      refine W.callX ?_
      walk_at "w"
      intro l
      walk_at "w"
      intro l2
      walk_at "w"
      refine WCX2_quotientX (xs := [1]) (ys := [2]) 2 2 (by walk_at "rx") (by walk_at "rx") ⟨by simp, by simp⟩ (tr_of_last (ys := []) (by decide)) (by simp) (fun x hx => by rw [List.mem_singleton.mp hx]; exact (by decide : (1 : Int).natAbs < 2 ^ 2)) (fun x hx => by rw [List.mem_singleton.mp hx]; exact (by decide : (2 : Int).natAbs < 2 ^ 2)) (by decide) (by decide) not_half ?_
      exact fun H' k => q H' (k.sub (by walk_at "sub"))
    · walk_at "w"
      refine W.callX ?_
      walk_at "w"
      intro l
      walk_at "w"
      intro l2
      walk_at "w"
      refine WC_meetX (by walk_at "rx") (by walk_at "rx") ?_
      exact fun H' k => q H' (k.sub (by walk_at "sub"))
    · walk_at "w"
      refine W.callX ?_
      walk_at "w"
      intro l
      walk_at "w"
      refine WC_partsX (by walk_at "rx") ?_
      exact fun H' k => q H' (k.sub (by walk_at "sub"))
    · walk_at "w"
      refine W.callX ?_
      walk_at "w"
      refine WCX_readX (a := []) (by decide) rn_nil nwd_nil ?_
      exact fun H' k => q H' (k.sub (by walk_at "sub"))

end

section
variable {P : Program} {w : World} {K : PySem.W.Frag} {mg : Str → Option Value} {base : Heap}
-- ok__law_refuse
def sp__law_first : Sp := fun vs H Q _ => ∃ w : Nat, w < 7 ∧ vs = [.int (w : Int)] ∧ NR Q (.int (w : Int)) H []
theorem WC__law_first {H0 : Hp} {fs : Fs} {Φ : CV} {w : Nat} (hw : w < 7) (q : Φ (.int (w : Int)) fs) : WC sp__law_first [.int (w : Int)] H0 fs Φ := fun H k Q E cc => ⟨w, hw, rfl, fun H' k' => cc _ _ _ (k.app k') q⟩
theorem ok__law_first (T : Txt K mg) : FnOk P w K mg base CX0 9 T.a__law_first T.d__law_first ["_law_which"] sp__law_first := by
  refine T.F__law_first.ok sc__law_first (fun vs H Q E h => ?_) (fun cdv A outer s H vs Q E hr h => ?_)
  · obtain ⟨w, _, rfl, _⟩ := h; rfl
  · obtain ⟨w, hw, rfl, q⟩ := h
    refine ⟨_, (pss_cons (ps_try_manyK (K := K) (Wout := (fun _ _ _ _ => False)) rfl rfl rfl takes0
        (fun W0 pn0 xe0 tk0 po0 => (pss_one (ps_expr (pe_callS (okX__law_refuse T) (hr.mono (by decide)) (by rfl) T.m__law_refuse T.F__law_refuse.kp T.b__law_refuse (fun σ => passAt tk0 σ) (pa_cons (pv 0) pa_nil)))))
        (.cons ⟨by rfl, by decide, .inl T.e_NoNumber.g⟩ (fun a oe cls d pn hz hf => (pss_one (ps_ret pe_int))) (.cons ⟨by rfl, by decide, .inl T.e_NoPower.g⟩ (fun a oe cls d pn hz hf => (pss_one (ps_ret pe_int))) (.cons ⟨by rfl, by decide, .inl T.e_ByNought.g⟩ (fun a oe cls d pn hz hf => (pss_one (ps_ret pe_int))) (.cons ⟨by rfl, by decide, .inl T.e_NotWhole.g⟩ (fun a oe cls d pn hz hf => (pss_one (ps_ret pe_int))) (.cons ⟨by rfl, by decide, .inl T.e_NoMeet.g⟩ (fun a oe cls d pn hz hf => (pss_one (ps_ret pe_int))) (.cons ⟨by rfl, by decide, .inl T.e_NoParts.g⟩ (fun a oe cls d pn hz hf => (pss_one (ps_ret pe_int))) (.cons ⟨by rfl, by decide, .inl T.e_NotWritten.g⟩ (fun a oe cls d pn hz hf => (pss_one (ps_ret pe_int))) .nil))))))))
      (pss_one (ps_ret pe_int))), ?_⟩
    refine N.go (σ := [some (.int (w : Int))]) ?_
    refine S.seq ?_
    walk_at "w"
    refine W.callX ?_
    walk_at "w"
    refine WC__law_refuseX hw ?_
    have h7 : w = 0 ∨ w = 1 ∨ w = 2 ∨ w = 3 ∨ w = 4 ∨ w = 5 ∨ w = 6 := by omega
    rcases h7 with rfl | rfl | rfl | rfl | rfl | rfl | rfl
    · refine NX.many T.u_NoNumber_NoNumber fun e => ?_
      walk_at "w"
      exact NR.sub q (by walk_at "sub")
    · refine NX.manyF T.u_NoPower_NoNumber ?_
      refine NX.many T.u_NoPower_NoPower fun e => ?_
      walk_at "w"
      exact NR.sub q (by walk_at "sub")
    · refine NX.manyF T.u_ByNought_NoNumber ?_
      refine NX.manyF T.u_ByNought_NoPower ?_
      refine NX.many T.u_ByNought_ByNought fun e => ?_
      walk_at "w"
      exact NR.sub q (by walk_at "sub")
    · refine NX.manyF T.u_NotWhole_NoNumber ?_
      refine NX.manyF T.u_NotWhole_NoPower ?_
      refine NX.manyF T.u_NotWhole_ByNought ?_
      refine NX.many T.u_NotWhole_NotWhole fun e => ?_
      walk_at "w"
      exact NR.sub q (by walk_at "sub")
    · refine NX.manyF T.u_NoMeet_NoNumber ?_
      refine NX.manyF T.u_NoMeet_NoPower ?_
      refine NX.manyF T.u_NoMeet_ByNought ?_
      refine NX.manyF T.u_NoMeet_NotWhole ?_
      refine NX.many T.u_NoMeet_NoMeet fun e => ?_
      walk_at "w"
      exact NR.sub q (by walk_at "sub")
    · refine NX.manyF T.u_NoParts_NoNumber ?_
      refine NX.manyF T.u_NoParts_NoPower ?_
      refine NX.manyF T.u_NoParts_ByNought ?_
      refine NX.manyF T.u_NoParts_NotWhole ?_
      refine NX.manyF T.u_NoParts_NoMeet ?_
      refine NX.many T.u_NoParts_NoParts fun e => ?_
      walk_at "w"
      exact NR.sub q (by walk_at "sub")
    · refine NX.manyF T.u_NotWritten_NoNumber ?_
      refine NX.manyF T.u_NotWritten_NoPower ?_
      refine NX.manyF T.u_NotWritten_ByNought ?_
      refine NX.manyF T.u_NotWritten_NotWhole ?_
      refine NX.manyF T.u_NotWritten_NoMeet ?_
      refine NX.manyF T.u_NotWritten_NoParts ?_
      refine NX.many T.u_NotWritten_NotWritten fun e => ?_
      walk_at "w"
      exact NR.sub q (by walk_at "sub")

end

section
variable {P : Program} {w : World} {K : PySem.W.Frag} {mg : Str → Option Value} {base : Heap}
-- ok__law_refuse
def sp__law_last : Sp := fun vs H Q _ => ∃ w : Nat, w < 7 ∧ vs = [.int (w : Int)] ∧ NR Q (.int (w : Int)) H []
theorem WC__law_last {H0 : Hp} {fs : Fs} {Φ : CV} {w : Nat} (hw : w < 7) (q : Φ (.int (w : Int)) fs) : WC sp__law_last [.int (w : Int)] H0 fs Φ := fun H k Q E cc => ⟨w, hw, rfl, fun H' k' => cc _ _ _ (k.app k') q⟩
theorem ok__law_last (T : Txt K mg) : FnOk P w K mg base CX0 9 T.a__law_last T.d__law_last ["_law_which"] sp__law_last := by
  refine T.F__law_last.ok sc__law_last (fun vs H Q E h => ?_) (fun cdv A outer s H vs Q E hr h => ?_)
  · obtain ⟨w, _, rfl, _⟩ := h; rfl
  · obtain ⟨w, hw, rfl, q⟩ := h
    refine ⟨_, (pss_cons (ps_try_manyK (K := K) (Wout := (fun _ _ _ _ => False)) rfl rfl rfl takes0
        (fun W0 pn0 xe0 tk0 po0 => (pss_one (ps_expr (pe_callS (okX__law_refuse T) (hr.mono (by decide)) (by rfl) T.m__law_refuse T.F__law_refuse.kp T.b__law_refuse (fun σ => passAt tk0 σ) (pa_cons (pv 0) pa_nil)))))
        (.cons ⟨by rfl, by decide, .inl T.e_NotWritten.g⟩ (fun a oe cls d pn hz hf => (pss_one (ps_ret pe_int))) (.cons ⟨by rfl, by decide, .inl T.e_NoParts.g⟩ (fun a oe cls d pn hz hf => (pss_one (ps_ret pe_int))) (.cons ⟨by rfl, by decide, .inl T.e_NoMeet.g⟩ (fun a oe cls d pn hz hf => (pss_one (ps_ret pe_int))) (.cons ⟨by rfl, by decide, .inl T.e_NotWhole.g⟩ (fun a oe cls d pn hz hf => (pss_one (ps_ret pe_int))) (.cons ⟨by rfl, by decide, .inl T.e_ByNought.g⟩ (fun a oe cls d pn hz hf => (pss_one (ps_ret pe_int))) (.cons ⟨by rfl, by decide, .inl T.e_NoPower.g⟩ (fun a oe cls d pn hz hf => (pss_one (ps_ret pe_int))) (.cons ⟨by rfl, by decide, .inl T.e_NoNumber.g⟩ (fun a oe cls d pn hz hf => (pss_one (ps_ret pe_int))) .nil))))))))
      (pss_one (ps_ret pe_int))), ?_⟩
    refine N.go (σ := [some (.int (w : Int))]) ?_
    refine S.seq ?_
    walk_at "w"
    refine W.callX ?_
    walk_at "w"
    refine WC__law_refuseX hw ?_
    have h7 : w = 0 ∨ w = 1 ∨ w = 2 ∨ w = 3 ∨ w = 4 ∨ w = 5 ∨ w = 6 := by omega
    rcases h7 with rfl | rfl | rfl | rfl | rfl | rfl | rfl
    · refine NX.manyF T.u_NoNumber_NotWritten ?_
      refine NX.manyF T.u_NoNumber_NoParts ?_
      refine NX.manyF T.u_NoNumber_NoMeet ?_
      refine NX.manyF T.u_NoNumber_NotWhole ?_
      refine NX.manyF T.u_NoNumber_ByNought ?_
      refine NX.manyF T.u_NoNumber_NoPower ?_
      refine NX.many T.u_NoNumber_NoNumber fun e => ?_
      walk_at "w"
      exact NR.sub q (by walk_at "sub")
    · refine NX.manyF T.u_NoPower_NotWritten ?_
      refine NX.manyF T.u_NoPower_NoParts ?_
      refine NX.manyF T.u_NoPower_NoMeet ?_
      refine NX.manyF T.u_NoPower_NotWhole ?_
      refine NX.manyF T.u_NoPower_ByNought ?_
      refine NX.many T.u_NoPower_NoPower fun e => ?_
      walk_at "w"
      exact NR.sub q (by walk_at "sub")
    · refine NX.manyF T.u_ByNought_NotWritten ?_
      refine NX.manyF T.u_ByNought_NoParts ?_
      refine NX.manyF T.u_ByNought_NoMeet ?_
      refine NX.manyF T.u_ByNought_NotWhole ?_
      refine NX.many T.u_ByNought_ByNought fun e => ?_
      walk_at "w"
      exact NR.sub q (by walk_at "sub")
    · refine NX.manyF T.u_NotWhole_NotWritten ?_
      refine NX.manyF T.u_NotWhole_NoParts ?_
      refine NX.manyF T.u_NotWhole_NoMeet ?_
      refine NX.many T.u_NotWhole_NotWhole fun e => ?_
      walk_at "w"
      exact NR.sub q (by walk_at "sub")
    · refine NX.manyF T.u_NoMeet_NotWritten ?_
      refine NX.manyF T.u_NoMeet_NoParts ?_
      refine NX.many T.u_NoMeet_NoMeet fun e => ?_
      walk_at "w"
      exact NR.sub q (by walk_at "sub")
    · refine NX.manyF T.u_NoParts_NotWritten ?_
      refine NX.many T.u_NoParts_NoParts fun e => ?_
      walk_at "w"
      exact NR.sub q (by walk_at "sub")
    · refine NX.many T.u_NotWritten_NotWritten fun e => ?_
      walk_at "w"
      exact NR.sub q (by walk_at "sub")

end

section
variable {P : Program} {w : World} {K : PySem.W.Frag} {mg : Str → Option Value} {base : Heap}
def sp__law_refused : Sp := fun vs H Q _ => ∃ (a : List Nat), vs = [.str (tx a)] ∧ a.length ≤ 90000 ∧ Rn 640 a ∧ ¬ Wd a ∧ NR Q (.bl true) H []
theorem WC__law_refused {H0 : Hp} {fs : Fs} {Φ : CV} {a : List Nat} (hl : a.length ≤ 90000) (hr : Rn 640 a) (hw : ¬ Wd a) (q : Φ (.bl true) fs) : WC sp__law_refused [.str (tx a)] H0 fs Φ := fun H k Q E cc => ⟨a, rfl, hl, hr, hw, fun H' k' => cc _ _ _ (k.app k') q⟩
-- ok_readX
theorem ok__law_refused (T : Txt K mg) : FnOk P w K mg base CX0 5 T.a__law_refused T.d__law_refused ["_law_line"] sp__law_refused := by
  refine T.F__law_refused.ok sc__law_refused (fun vs H Q E h => ?_) (fun cdv A outer s H vs Q E hr h => ?_)
  · obtain ⟨a, rfl, _⟩ := h; rfl
  · obtain ⟨a, rfl, hl, hrn, hw, q⟩ := h
    refine ⟨_, (pss_cons (ps_try_asK (K := K) (i := 1) (Wout := (fun _ _ _ _ => False)) rfl rfl rfl sc__law_refused.nd rfl rfl ⟨by rfl, by decide, .inl T.e_PolyError.g⟩ takes0
        (fun W0 pn0 xe0 tk0 po0 => (pss_one (ps_expr (pe_callS (okX_read T) (hr.mono (by decide)) (by rfl) T.m_read T.F_read.kp T.b_read (fun σ => passAt tk0 σ) (pa_cons (pv 0) pa_nil)))))
        (fun a oe cls d pn hz hf => (pss_one (ps_ret (pe_callB (call_isVK (K := K) rfl hz hf) (by rfl) T.z_isinstance (by decide +kernel) (pa_cons (pv 1) (pa_cons (pe_bltn (v := .ty "ValueError") (by rfl) T.z_ValueError (by decide +kernel) rfl) pa_nil)))))))
      (pss_one (ps_ret pe_bl))), ?_⟩
    refine N.go (σ := [some (.str (tx a)), none]) ?_
    refine S.seq ?_
    walk_at "w"
    refine W.callX ?_
    walk_at "w"
    refine WCX_readX hl hrn hw ?_
    refine NX.as T.u_NotWritten_PolyError fun e => ?_
    walk_at "d"
    walk_at "w"
    refine RC.isV T.e_NotWritten.i T.e_NotWritten.v ?_
    walk_at "fin"

end

section
variable {P : Program} {w : World} {K : PySem.W.Frag} {mg : Str → Option Value} {base : Heap}
-- ok__law_sign tk__law_sign
theorem sg_inj {a b : Int} (h : sg a = sg b) : a < 0 ↔ b < 0 := by
  unfold sg at h
  by_cases h1 : a < 0 <;> by_cases h2 : b < 0
  · exact ⟨fun _ => h2, fun _ => h1⟩
  · rw [if_pos h1, if_neg h2] at h; exact absurd h (by decide)
  · rw [if_neg h1, if_pos h2] at h; exact absurd h (by decide)
  · exact ⟨fun z => absurd z h1, fun z => absurd z h2⟩
theorem pair_eq {a b : Int × Nat} (h1 : a.1 < 0 ↔ b.1 < 0) (h : trm a.1.natAbs a.2 = trm b.1.natAbs b.2) : a = b := by
  obtain ⟨e1, e2⟩ := trm_inj h
  exact Prod.ext (by omega) e2
theorem more2_inj : ∀ {r q : List (Int × Nat)}, more2 r = more2 q → r = q
  | [], [], _ => rfl
  | [], b :: q, h => nomatch (show [] = sg b.1 :: trm b.1.natAbs b.2 :: more2 q from h)
  | a :: r, [], h => nomatch (show sg a.1 :: trm a.1.natAbs a.2 :: more2 r = [] from h)
  | a :: r, b :: q, h => by
    have h' : sg a.1 :: trm a.1.natAbs a.2 :: more2 r = sg b.1 :: trm b.1.natAbs b.2 :: more2 q := h
    obtain ⟨h1, h2⟩ := List.cons.inj h'
    obtain ⟨h2, h3⟩ := List.cons.inj h2
    rw [pair_eq (sg_inj h1) h2, more2_inj h3]
theorem txt_inj {ts us : List (Int × Nat)} (ht : ∀ a ∈ ts, a.1 ≠ 0) (hu : ∀ a ∈ us, a.1 ≠ 0) (h : txt ts = txt us) : ts = us := by
  have none_ : ∀ vs : List (Int × Nat), (∀ a ∈ vs, a.1 ≠ 0) → vs ≠ [] → txt vs ≠ [48] := fun vs hv hn z => by
    unfold txt at z
    rw [if_neg hn] at z
    cases vs with
    | nil => exact hn rfl
    | cons a r =>
      obtain ⟨c, q, e, h48, h45⟩ := join_head (r := r) (hv a List.mem_cons_self)
      have e' : hs (a :: r) = if a.1 < 0 then [45] else [] := rfl
      rw [e, e'] at z
      split at z
      · exact absurd (List.cons.inj z).1 (by decide)
      · exact h48 (List.cons.inj z).1
  cases ts with
  | nil =>
    by_cases hn : us = []
    · exact hn.symm
    · exact absurd h.symm (none_ us hu hn)
  | cons a r =>
    cases us with
    | nil => exact absurd h (none_ _ ht (List.cons_ne_nil _ _))
    | cons b q =>
      obtain ⟨c1, q1, e1, _, n1⟩ := join_head (r := r) (ht a List.mem_cons_self)
      obtain ⟨c2, q2, e2, _, n2⟩ := join_head (r := q) (hu b List.mem_cons_self)
      have h' : (if a.1 < 0 then [45] else []) ++ TL.joinL [32] (words (a :: r)) = (if b.1 < 0 then [45] else []) ++ TL.joinL [32] (words (b :: q)) := by
        have z := h
        unfold txt at z
        rw [if_neg (List.cons_ne_nil _ _), if_neg (List.cons_ne_nil _ _)] at z
        exact z
      have key : (a.1 < 0 ↔ b.1 < 0) ∧ TL.joinL [32] (words (a :: r)) = TL.joinL [32] (words (b :: q)) := by
        by_cases h1 : a.1 < 0 <;> by_cases h2 : b.1 < 0
        · rw [if_pos h1, if_pos h2] at h'
          exact ⟨⟨fun _ => h2, fun _ => h1⟩, (List.cons.inj h').2⟩
        · rw [if_pos h1, if_neg h2, e2] at h'
          exact absurd (List.cons.inj h').1.symm n2
        · rw [if_neg h1, if_pos h2, e1] at h'
          exact absurd (List.cons.inj h').1 n1
        · rw [if_neg h1, if_neg h2] at h'
          exact ⟨⟨fun z => absurd z h1, fun z => absurd z h2⟩, h'⟩
      have hw : words (a :: r) = words (b :: q) := by
        rw [← words_split (List.cons_ne_nil a r), ← words_split (List.cons_ne_nil b q), key.2]
      have hw' : trm a.1.natAbs a.2 :: more2 r = trm b.1.natAbs b.2 :: more2 q := hw
      obtain ⟨h1, h2⟩ := List.cons.inj hw'
      rw [pair_eq key.1 h1, more2_inj h2]
theorem wr_inj {xs ys : List Int} (hx : Tr xs) (hy : Tr ys) (lx : xs.length ≤ 100) (ly : ys.length ≤ 100) (h : wr xs = wr ys) : xs = ys := by
  rw [wr_txt, wr_txt] at h
  have e := txt_inj (fun a ha => (tms_pow xs xs.length (Nat.le_refl _) a ha).2.2.2) (fun a ha => (tms_pow ys ys.length (Nat.le_refl _) a ha).2.2.2) h
  rw [← fill_trim hx lx, ← fill_trim hy ly, e]
theorem drawn_lt (ns : List Int) (place size many : Int) : ∀ x ∈ drawn ns place size many, (TL.numL x.natAbs).length ≤ 59 := fun x hx => by
  refine TL.numL_len (by decide) ?_
  have h := mem_trim hx
  split at h
  · obtain ⟨k, _, rfl⟩ := List.mem_map.mp h
    exact num__law_number_lt _
  · obtain ⟨k, _, rfl⟩ := List.mem_map.mp h
    exact num__law_number_lt _
theorem wr_len {xs : List Int} (hb : BdL 210 xs) (hl : xs.length ≤ 101) : (wr xs).length ≤ 19000 := by
  have h := wrs_len hb (by omega) xs.length
  unfold wr
  split
  · show 1 ≤ _; omega
  · omega
theorem Lf.turned {a b : List Nat} (h : Wfl a) (hl : a.length ≤ 19000) (t : Tu a b) : Lf b := by
  obtain ⟨p, _, ⟨c, _, rfl⟩ | rfl | ⟨c, _, rfl⟩⟩ := t
  · exact Lf.put h hl p c
  · exact Lf.cut h hl p
  · exact Lf.swap h hl p c
theorem passN {P : Program} {w : World} {X : Cx} : Passes (L2.CX P w) X E0 := fun _ _ _ _ _ _ _ ⟨_, _, _, _, _, _, _, _, _, _, _, _, q⟩ => q.elim
theorem WC_readG {C : Addr} {H0 : Hp} {fs : Fs} {Φ : CV} {a : List Nat} (hl : a.length ≤ 90000) (hr : Rn 640 a) (hw : Wd a) (q : ∀ xs, Tr xs → xs.length ≤ 100 → wr xs = a → ∀ r, Φ (.ref r) ((r, .lst (zV xs)) :: fs)) : WC (sp_readX C) [.str (tx a)] H0 fs Φ :=
  fun H k Q E cc => ⟨a, rfl, hl, hr, fun n p h1 h2 r H' k' => cc _ _ _ (k.app k') (q n p h1 h2 r), fun h => absurd hw h⟩
def sp_law (K : PySem.W.Frag) : Sp := fun vs H Q _ => ∃ (a : Addr) (ns : List Int), vs = [.ref a] ∧ SqL K H a (ns.map V.int) ∧ ns.length ≤ 63 ∧ ∀ H', Q (.bl true) H'
theorem ok_law (T : Txt K mg) (hb0 : PySem.W.nsIn K cStatics sharingNotToldKey = some none) : FnOk P w K mg base CX0 10 T.a_law T.d_law ["_law_script"] (sp_law K) := by
  refine fun_okT T.F_law sc_law (by decide +kernel) (by decide) (fun vs H Q E h => ?_) (fun cdv A outer s H vs Q E hr h => ?_)
  · obtain ⟨a, ns, rfl, _⟩ := h; rfl
  · obtain ⟨a, ns, rfl, hA, hl, q⟩ := h
    have hA : SqL K H a (zV ns) := hA
    refine ⟨_, (psst_cons (PST.of (ps_set (i := 1) sc_law.nd rfl (Or.inl rfl) (pe_op op_mod (pe_call (ok__law_cell_at T) (hr.mono (by decide)) (by rfl) T.m__law_cell_at T.F__law_cell_at.kp T.b__law_cell_at .nil pass0 (pa_cons (pv 0) (pa_cons pe_int pa_nil))) pe_int)))
      (psst_cons (PST.of (ps_if (PW.pt (pw_or (pt_cmpR op_ne (pe_call (ok__law_first T) (hr.mono (by decide)) (by rfl) T.m__law_first T.F__law_first.kp T.b__law_first .nil pass0 (pa_cons (pv 1) pa_nil)) (pv 1) (nomark _)) (pw_or1 (pt_cmpR op_ne (pe_call (ok__law_last T) (hr.mono (by decide)) (by rfl) T.m__law_last T.F__law_last.kp T.b__law_last .nil pass0 (pa_cons (pv 1) pa_nil)) (pv 1) (nomark _))))) (pss_one (ps_ret pe_bl)) pss_nil))
      (psst_cons (PST.of (ps_set (i := 2) sc_law.nd rfl (Or.inl rfl) (pe_call (ok__law_cell_at T) (hr.mono (by decide)) (by rfl) T.m__law_cell_at T.F__law_cell_at.kp T.b__law_cell_at .nil pass0 (pa_cons (pv 0) (pa_cons pe_int pa_nil)))))
      (psst_cons (PST.of (ps_set (i := 3) sc_law.nd rfl (Or.inl rfl) (pe_call (ok__law_cell_at T) (hr.mono (by decide)) (by rfl) T.m__law_cell_at T.F__law_cell_at.kp T.b__law_cell_at .nil pass0 (pa_cons (pv 0) (pa_cons pe_int pa_nil)))))
      (psst_cons (PST.of (ps_set (i := 4) sc_law.nd rfl (Or.inl rfl) pe_int))
      (psst_cons (PST.of (ps_if (pt_cmpR op_eq (pe_op op_mod (pv 2) pe_int) pe_int (nomark _)) (pss_one (ps_set (i := 4) sc_law.nd rfl (Or.inl rfl) (pe_op op_mod (pe_op op_fdiv (pv 2) pe_int) pe_int))) pss_nil))
      (psst_cons (PST.of (ps_set (i := 5) sc_law.nd rfl (Or.inl rfl) (pe_call (ok__law_written T) (hr.mono (by decide)) (by rfl) T.m__law_written T.F__law_written.kp T.b__law_written .nil pass0 (pa_cons (pe_call (ok__law_drawn T) (hr.mono (by decide)) (by rfl) T.m__law_drawn T.F__law_drawn.kp T.b__law_drawn .nil pass0 (pa_cons (pv 0) (pa_cons pe_int (pa_cons (pe_op op_mod (pe_op op_fdiv (pv 2) pe_int) pe_int) (pa_cons (pv 4) pa_nil))))) pa_nil))))
      (psst_cut (PST.of (ps_if (pt_cmpR op_eq (pe_op op_mod (pv 3) pe_int) pe_int (nomark _)) (pss_one (ps_set (i := 5) sc_law.nd rfl (Or.inl rfl) (pe_call (ok__law_turned T) (hr.mono (by decide)) (by rfl) T.m__law_turned T.F__law_turned.kp T.b__law_turned .nil pass0 (pa_cons (pv 5) (pa_cons (pe_call (ok__law_cell_at T) (hr.mono (by decide)) (by rfl) T.m__law_cell_at T.F__law_cell_at.kp T.b__law_cell_at .nil pass0 (pa_cons (pv 0) (pa_cons pe_int pa_nil))) (pa_cons (pe_call (ok__law_cell_at T) (hr.mono (by decide)) (by rfl) T.m__law_cell_at T.F__law_cell_at.kp T.b__law_cell_at .nil pass0 (pa_cons (pv 0) (pa_cons pe_int pa_nil))) pa_nil)))))) pss_nil))
      (psst_cut (CwR.pst_if (pt_cmpR op_eq (pe_op op_mod (pv 3) pe_int) pe_int (nomark _)) (CwR.psst_one (pst_set (i := 5) sc_law.nd rfl (Or.inl rfl) (pet_repK hb0 (pv 5) (pek_call (tk__law_sign T) (len__law_sign) (hr.mono (by decide)) (by rfl) T.m__law_sign T.F__law_sign.kp T.b__law_sign (pa_cons (pe_call (ok__law_cell_at T) (hr.mono (by decide)) (by rfl) T.m__law_cell_at T.F__law_cell_at.kp T.b__law_cell_at .nil pass0 (pa_cons (pv 0) (pa_cons pe_int pa_nil))) pa_nil))))) (PSsT.of pss_nil))
      (psst_cut (PST.of (ps_if (pt_cmpR (op_inT hr) (pe_op op_mod (pv 3) pe_int) (pe_tup (pa_cons pe_int (pa_cons pe_int (pa_cons pe_int pa_nil)))) rfl) (pss_one (ps_set (i := 5) sc_law.nd rfl (Or.inl rfl) (pe_call (ok__law_odd T) (hr.mono (by decide)) (by rfl) T.m__law_odd T.F__law_odd.kp T.b__law_odd .nil pass0 (pa_cons (pe_call (ok__law_cell_at T) (hr.mono (by decide)) (by rfl) T.m__law_cell_at T.F__law_cell_at.kp T.b__law_cell_at .nil pass0 (pa_cons (pv 0) (pa_cons pe_int pa_nil))) pa_nil)))) pss_nil))
      (psst_cons (PST.of (ps_set (i := 6) sc_law.nd rfl (Or.inl rfl) (pe_call (ok__law_due T) (hr.mono (by decide)) (by rfl) T.m__law_due T.F__law_due.kp T.b__law_due .nil pass0 (pa_cons (pv 5) pa_nil))))
      (psst_cons (PST.of (ps_set (i := 7) sc_law.nd rfl (Or.inl rfl) pe_bl))
      (psst_cons (PST.of (ps_set (i := 8) sc_law.nd rfl (Or.inl rfl) (pe_lst pa_nil)))
      (psst_cons (PST.of (ps_try_onlyK (K := K) (Wout := (fun _ _ _ _ => False)) rfl rfl rfl ⟨by rfl, by decide, .inl T.e_NotWritten.g⟩ takes0
        (fun W0 pn0 xe0 tk0 po0 => (pss_one (ps_set (i := 8) sc_law.nd rfl (Or.inl rfl) (pe_callS (okX_read T) (hr.mono (by decide)) (by rfl) T.m_read T.F_read.kp T.b_read (fun σ => passAt tk0 σ) (pa_cons (pv 5) pa_nil)))))
        (fun a oe cls d pn hz hf => (pss_one (ps_set (i := 7) sc_law.nd rfl (Or.inl rfl) pe_bl)))))
      (psst_cons (PST.of (ps_if (pt_cmpR op_isNo (pv 6) pe_non (nomark _)) (pss_one (ps_ret (pe_and (pv 7) (pe_one (pe_call (ok__law_refused T) (hr.mono (by decide)) (by rfl) T.m__law_refused T.F__law_refused.kp T.b__law_refused .nil pass0 (pa_cons (pv 5) pa_nil)))))) pss_nil))
      (psst_cons (PST.of (ps_if (PW.pt (pw_or (pt_val (pv 7)) (pw_or1 (pt_not (pt_val (pe_call (ok__law_same T) (hr.mono (by decide)) (by rfl) T.m__law_same T.F__law_same.kp T.b__law_same .nil pass0 (pa_cons (pv 8) (pa_cons (pv 6) pa_nil)))))))) (pss_one (ps_ret pe_bl)) pss_nil))
      (psst_cons (PST.of (ps_expr (pe_bm PySem.F.plainAttrs_list PySem.F.slot_list_append PySem.F.type_list_append mt_append (pv 8) (pa_cons pe_int pa_nil))))
      (CwR.psst_one (PST.of (ps_ret (pe_call (ok__law_same T) (hr.mono (by decide)) (by rfl) T.m__law_same T.F__law_same.kp T.b__law_same .nil pass0 (pa_cons (pe_call (okX_read T) (hr.mono (by decide)) (by rfl) T.m_read T.F_read.kp T.b_read .nil passN (pa_cons (pv 5) pa_nil)) (pa_cons (pv 6) pa_nil))))))))))))))))))))))), ?_⟩
    refine N.go (σ := [some (.ref a), none, none, none, none, none, none, none, none]) ?_
    walk_at "w"
    refine WC__law_cell_at (ns := ns) (by walk_at "rl") (by omega) ?_
    walk_at "w"
    have w0 := Int.emod_nonneg (gat ns 3) (show (7 : Int) ≠ 0 by decide)
    have w1 := Int.emod_lt_of_pos (gat ns 3) (show (0 : Int) < 7 by decide)
    generalize gat ns 3 % 7 = which at w0 w1
    obtain ⟨n, rfl⟩ := Int.eq_ofNat_of_zero_le w0
    have hn : n < 7 := by omega
    walk_at "d"
    walk_at "w"
    refine WC__law_first hn ?_
    walk_at "w"
    rw [decide_eq_true (rfl : (n : Int) = (n : Int))]
    walk_at "w"
    refine WC__law_last hn ?_
    walk_at "w"
    rw [decide_eq_true (rfl : (n : Int) = (n : Int))]
    walk_at "w"
    refine WC__law_cell_at (ns := ns) (by walk_at "rl") (by omega) ?_
    generalize gat ns 0 = first
    walk_at "d"
    walk_at "w"
    refine WC__law_cell_at (ns := ns) (by walk_at "rl") (by omega) ?_
    generalize gat ns 1 = second
    walk_at "d"
    walk_at "w0"
    walk_at "d"
    obtain ⟨many, hmany⟩ : ∃ m, m = if first % 6 = 1 then first / 6 % 101 else 0 := ⟨_, rfl⟩
    have hm : 0 ≤ many ∧ many ≤ 100 := by
      rw [hmany]; split <;> omega
    refine S.ifset (.int many) ?_ ?_
    · walk_at "w"
      refine ⟨rfl, fun hb => ?_, fun hb => ?_⟩
      · walk_at "w"
        rw [hmany, if_pos (of_decide_eq_true hb)]
        exact ⟨rfl, rfl⟩
      · rw [hmany, if_neg (of_decide_eq_false hb)]
        rfl
    walk_at "d"
    walk_at "w"
    refine WC__law_drawn (ns := ns) (by walk_at "rl") (by omega) (by omega) (by omega) fun r1 => ?_
    have hlen1 : (drawn ns 4 (first / 6 % 6) many).length ≤ 100 := drawn_len2 ns (by omega) (by omega)
    have hbd1 := drawn_bd ns 4 (first / 6 % 6) many
    have htr1 := drawn_tr ns 4 (first / 6 % 6) many
    have hlt1 := drawn_lt ns 4 (first / 6 % 6) many
    generalize drawn ns 4 (first / 6 % 6) many = xs at hlen1 hbd1 htr1 hlt1
    walk_at "d"
    walk_at "w"
    refine WC__law_written (xs := xs) (by walk_at "rx") (by omega) hbd1 ?_
    have wf := Wfl.wr (xs := xs) (by omega) hlt1
    have wl := wr_len hbd1 (by omega)
    generalize wr xs = a1 at wf wl
    walk_at "d"
    refine S.cut (fun σ f => ∃ l : List Nat, σ = [some (.ref a), some (.int n), some (.int first), some (.int second), some (.int many), some (.str (tx l)), none, none, none] ∧ f = [] ∧ Lf l ∧ (second % 2 ≠ 1 → l = a1)) ?_ ?_
    · walk_at "w"
      walk_at "if"
      · walk_at "w"
        refine WC__law_cell_at (ns := ns) (by walk_at "rl") (by omega) ?_
        walk_at "w"
        refine WC__law_cell_at (ns := ns) (by walk_at "rl") (by omega) ?_
        walk_at "w"
        refine WC__law_turned (by omega) fun b hb => ?_
        walk_at "d"
        refine Un.sub [] (by walk_at "sub") ?_
        exact ⟨b, rfl, rfl, Lf.turned wf wl hb, fun z => absurd (by assumption) z⟩
      · refine Un.sub [] (by walk_at "sub") ?_
        exact ⟨a1, rfl, rfl, Lf.wfl wf (by omega), fun _ => rfl⟩
    rintro σ f ⟨l1, rfl, rfl, hl1, he1⟩
    refine S.cut (fun σ f => ∃ l : List Nat, σ = [some (.ref a), some (.int n), some (.int first), some (.int second), some (.int many), some (.str (tx l)), none, none, none] ∧ f = [] ∧ Lf l) ?_ ?_
    · walk_at "w"
      walk_at "if"
      · have e1 := he1 (by omega)
        subst e1
        walk_at "w"
        refine W.repK (a := l1) (c := 120) (d := 0) rfl (by omega) ?_
        walk_at "w"
        refine ⟨rfl, ?_⟩
        walk_at "w"
        refine WC__law_cell_at (ns := ns) (by walk_at "rl") (by omega) ?_
        walk_at "w"
        refine WC__law_sign fun m hm => ?_
        refine ⟨m, rfl, ?_⟩
        walk_at "d"
        walk_at "un"
        exact ⟨_, rfl, rfl, Lf.map wf wl m⟩
      · walk_at "un"
        exact ⟨l1, rfl, rfl, hl1⟩
    rintro σ f ⟨l2, rfl, rfl, hl2⟩
    refine S.cut (fun σ f => ∃ l : List Nat, σ = [some (.ref a), some (.int n), some (.int first), some (.int second), some (.int many), some (.str (tx l)), none, none, none] ∧ f = [] ∧ Lf l) ?_ ?_
    · walk_at "w"
      refine ⟨by simp, fun p => ?_⟩
      refine RW.inT (d := .int (second % 10)) (ds := [.int 2, .int 4, .int 6]) Rd.int (Rd.tup (by walk_at "rt") (.cons Rd.int (.cons Rd.int (.cons Rd.int .nil)))) (by rfl) (by rfl) ?_
      generalize ([PyData.int 2, PyData.int 4, PyData.int 6].any fun z => PyData.eqv z (PyData.int (second % 10))) = bb
      refine ⟨bb, rfl, fun hb => ?_, fun hb => ?_⟩
      · walk_at "w"
        refine WC__law_cell_at (ns := ns) (by walk_at "rl") (by omega) ?_
        walk_at "w"
        refine WC__law_odd fun b hb => ?_
        walk_at "d"
        refine Un.sub [] (by walk_at "sub") ?_
        exact ⟨b, rfl, rfl, Lf.short (by have := odds_len b hb; omega)⟩
      · refine Un.sub [] (by walk_at "sub") ?_
        exact ⟨l2, rfl, rfl, hl2⟩
    rintro σ f ⟨l3, rfl, rfl, hl3⟩
    walk_at "w"
    have l20 := hl3.l
    refine WC__law_due (by omega) hl3.digits (fun xs3 ht3 hn3 hw3 p3 => ?_) (fun hnw => ?_)
    · walk_at "d"
      walk_at "w"
      intro p4
      walk_at "d"
      walk_at "w"
      refine W.callB ?_
      walk_at "w"
      refine WC_readX (by omega) hl3.rn (fun xs4 ht4 hn4 hw4 p5 => ?_) (fun hnw => absurd ⟨xs3, ht3, hn3, hw3⟩ hnw)
      have e4 := wr_inj ht4 ht3 hn4 hn3 (hw4.trans hw3.symm)
      subst e4
      walk_at "d"
      walk_at "w"
      refine WC__law_same (xs := xs4) (by walk_at "rx") (by walk_at "rx") (by omega) ?_
      walk_at "w"
      walk_at "d"
      walk_at "app"
      · rw [zV_length]; omega
      rw [show zV xs4 ++ [V.int 7] = zV (xs4 ++ [7]) from zV_app xs4 [7]]
      walk_at "d"
      walk_at "w"
      refine WC_readG (by omega) hl3.rn ⟨xs4, ht4, hn4, hw4⟩ fun xs6 ht6 hn6 hw6 p6 => ?_
      have e6 := wr_inj ht6 ht4 hn6 hn4 (hw6.trans hw4.symm)
      subst e6
      walk_at "w"
      refine WC__law_same (xs := xs6) (by walk_at "rx") (by walk_at "rx") (by omega) ?_
      exact fun H' _ => q H'
    · walk_at "d"
      walk_at "w"
      intro p4
      walk_at "d"
      walk_at "w"
      refine W.callB ?_
      walk_at "w"
      refine WC_readX (by omega) hl3.rn (fun xs4 ht4 hn4 hw4 p5 => absurd ⟨xs4, ht4, hn4, hw4⟩ hnw) (fun _ => ?_)
      refine NX.only T.u_NotWritten_NotWritten fun e => ?_
      walk_at "d"
      walk_at "w"
      refine WC__law_refused (by omega) hl3.rn hnw ?_
      exact fun H' _ => q H'

end
open PySem PySem.Spec PyProof.Rows L2 in
theorem all_mk {l : PySem.W.OpenLaw} {w : World} {K : PySem.W.Frag} {h : Heap} {mg : Str → Option Value} {fa : Addr} (X : K.In h) (G : h.Ns mainGlobals mg) (hfa : mg "law" = some (.ref fa))
    {f_trimmed f_made f_number_at f_minus f_scaled f_times f_raised f_slope f_whole_of f_power_of f_read_term f_read f_greatest f_content f_signed_content f_simple f_divided f_quotient f_shared f_begun f_behind f_meet f_parts f__law_whole f__law_cell_at f__law_trim f__law_same f__law_number f__law_drawn f__law_written f__law_figures f__law_term f__law_due f__law_odd f__law_sign f__law_turned f__law_refuse f__law_first f__law_last f__law_refused f_law : Addr} {od_trimmed an_trimmed od_made an_made od_number_at an_number_at od_minus an_minus od_scaled an_scaled od_times an_times od_raised an_raised od_slope an_slope od_whole_of an_whole_of od_power_of an_power_of od_read_term an_read_term od_read an_read od_greatest an_greatest od_content an_content od_signed_content an_signed_content od_simple an_simple od_divided an_divided od_quotient an_quotient od_shared an_shared od_begun an_begun od_behind an_behind od_meet an_meet od_parts an_parts od__law_whole an__law_whole od__law_cell_at an__law_cell_at od__law_trim an__law_trim od__law_same an__law_same od__law_number an__law_number od__law_drawn an__law_drawn od__law_written an__law_written od__law_figures an__law_figures od__law_term an__law_term od__law_due an__law_due od__law_odd an__law_odd od__law_sign an__law_sign od__law_turned an__law_turned od__law_refuse an__law_refuse od__law_first an__law_first od__law_last an__law_last od__law_refused an__law_refused od_law an_law : Option Addr} {sl_trimmed sl_made sl_number_at sl_minus sl_scaled sl_times sl_raised sl_slope sl_whole_of sl_power_of sl_read_term sl_read sl_greatest sl_content sl_signed_content sl_simple sl_divided sl_quotient sl_shared sl_begun sl_behind sl_meet sl_parts sl__law_whole sl__law_cell_at sl__law_trim sl__law_same sl__law_number sl__law_drawn sl__law_written sl__law_figures sl__law_term sl__law_due sl__law_odd sl__law_sign sl__law_turned sl__law_refuse sl__law_first sl__law_last sl__law_refused sl_law : Array (Option Value)} {oc_trimmed kV_trimmed dc_trimmed pm_trimmed cd_trimmed ct_trimmed oc_made kV_made dc_made pm_made cd_made ct_made oc_number_at kV_number_at dc_number_at pm_number_at cd_number_at ct_number_at oc_minus kV_minus dc_minus pm_minus cd_minus ct_minus oc_scaled kV_scaled dc_scaled pm_scaled cd_scaled ct_scaled oc_times kV_times dc_times pm_times cd_times ct_times oc_raised kV_raised dc_raised pm_raised cd_raised ct_raised oc_slope kV_slope dc_slope pm_slope cd_slope ct_slope oc_whole_of kV_whole_of dc_whole_of pm_whole_of cd_whole_of ct_whole_of oc_power_of kV_power_of dc_power_of pm_power_of cd_power_of ct_power_of oc_read_term kV_read_term dc_read_term pm_read_term cd_read_term ct_read_term oc_read kV_read dc_read pm_read cd_read ct_read oc_greatest kV_greatest dc_greatest pm_greatest cd_greatest ct_greatest oc_content kV_content dc_content pm_content cd_content ct_content oc_signed_content kV_signed_content dc_signed_content pm_signed_content cd_signed_content ct_signed_content oc_simple kV_simple dc_simple pm_simple cd_simple ct_simple oc_divided kV_divided dc_divided pm_divided cd_divided ct_divided oc_quotient kV_quotient dc_quotient pm_quotient cd_quotient ct_quotient oc_shared kV_shared dc_shared pm_shared cd_shared ct_shared oc_begun kV_begun dc_begun pm_begun cd_begun ct_begun oc_behind kV_behind dc_behind pm_behind cd_behind ct_behind oc_meet kV_meet dc_meet pm_meet cd_meet ct_meet oc_parts kV_parts dc_parts pm_parts cd_parts ct_parts oc__law_whole kV__law_whole dc__law_whole pm__law_whole cd__law_whole ct__law_whole oc__law_cell_at kV__law_cell_at dc__law_cell_at pm__law_cell_at cd__law_cell_at ct__law_cell_at oc__law_trim kV__law_trim dc__law_trim pm__law_trim cd__law_trim ct__law_trim oc__law_same kV__law_same dc__law_same pm__law_same cd__law_same ct__law_same oc__law_number kV__law_number dc__law_number pm__law_number cd__law_number ct__law_number oc__law_drawn kV__law_drawn dc__law_drawn pm__law_drawn cd__law_drawn ct__law_drawn oc__law_written kV__law_written dc__law_written pm__law_written cd__law_written ct__law_written oc__law_figures kV__law_figures dc__law_figures pm__law_figures cd__law_figures ct__law_figures oc__law_term kV__law_term dc__law_term pm__law_term cd__law_term ct__law_term oc__law_due kV__law_due dc__law_due pm__law_due cd__law_due ct__law_due oc__law_odd kV__law_odd dc__law_odd pm__law_odd cd__law_odd ct__law_odd oc__law_sign kV__law_sign dc__law_sign pm__law_sign cd__law_sign ct__law_sign oc__law_turned kV__law_turned dc__law_turned pm__law_turned cd__law_turned ct__law_turned oc__law_refuse kV__law_refuse dc__law_refuse pm__law_refuse cd__law_refuse ct__law_refuse oc__law_first kV__law_first dc__law_first pm__law_first cd__law_first ct__law_first oc__law_last kV__law_last dc__law_last pm__law_last cd__law_last ct__law_last oc__law_refused kV__law_refused dc__law_refused pm__law_refused cd__law_refused ct__law_refused oc_law kV_law dc_law pm_law cd_law ct_law : Value}
    (a_trimmed : PySem.W.nsIn K mainGlobals "trimmed" = some (some (.ref f_trimmed))) (l_trimmed : K.lookup f_trimmed = some ⟨oc_trimmed, od_trimmed, .func (PySem.W.fnOf "trimmed" "trimmed" (defArgs s_trimmed) (defBody s_trimmed) (defScope s_trimmed) .none kV_trimmed dc_trimmed pm_trimmed an_trimmed cd_trimmed ct_trimmed), sl_trimmed⟩) (c_trimmed : PySem.W.codeIn K cd_trimmed "trimmed" = true) (k_trimmed : PySem.W.keepIn K (.ref f_trimmed) = true)
    (a_made : PySem.W.nsIn K mainGlobals "made" = some (some (.ref f_made))) (l_made : K.lookup f_made = some ⟨oc_made, od_made, .func (PySem.W.fnOf "made" "made" (defArgs s_made) (defBody s_made) (defScope s_made) .none kV_made dc_made pm_made an_made cd_made ct_made), sl_made⟩) (c_made : PySem.W.codeIn K cd_made "made" = true) (k_made : PySem.W.keepIn K (.ref f_made) = true)
    (a_number_at : PySem.W.nsIn K mainGlobals "number_at" = some (some (.ref f_number_at))) (l_number_at : K.lookup f_number_at = some ⟨oc_number_at, od_number_at, .func (PySem.W.fnOf "number_at" "number_at" (defArgs s_number_at) (defBody s_number_at) (defScope s_number_at) .none kV_number_at dc_number_at pm_number_at an_number_at cd_number_at ct_number_at), sl_number_at⟩) (c_number_at : PySem.W.codeIn K cd_number_at "number_at" = true) (k_number_at : PySem.W.keepIn K (.ref f_number_at) = true)
    (a_minus : PySem.W.nsIn K mainGlobals "minus" = some (some (.ref f_minus))) (l_minus : K.lookup f_minus = some ⟨oc_minus, od_minus, .func (PySem.W.fnOf "minus" "minus" (defArgs s_minus) (defBody s_minus) (defScope s_minus) .none kV_minus dc_minus pm_minus an_minus cd_minus ct_minus), sl_minus⟩) (c_minus : PySem.W.codeIn K cd_minus "minus" = true) (k_minus : PySem.W.keepIn K (.ref f_minus) = true)
    (a_scaled : PySem.W.nsIn K mainGlobals "scaled" = some (some (.ref f_scaled))) (l_scaled : K.lookup f_scaled = some ⟨oc_scaled, od_scaled, .func (PySem.W.fnOf "scaled" "scaled" (defArgs s_scaled) (defBody s_scaled) (defScope s_scaled) .none kV_scaled dc_scaled pm_scaled an_scaled cd_scaled ct_scaled), sl_scaled⟩) (c_scaled : PySem.W.codeIn K cd_scaled "scaled" = true) (k_scaled : PySem.W.keepIn K (.ref f_scaled) = true)
    (a_times : PySem.W.nsIn K mainGlobals "times" = some (some (.ref f_times))) (l_times : K.lookup f_times = some ⟨oc_times, od_times, .func (PySem.W.fnOf "times" "times" (defArgs s_times) (defBody s_times) (defScope s_times) .none kV_times dc_times pm_times an_times cd_times ct_times), sl_times⟩) (c_times : PySem.W.codeIn K cd_times "times" = true) (k_times : PySem.W.keepIn K (.ref f_times) = true)
    (a_raised : PySem.W.nsIn K mainGlobals "raised" = some (some (.ref f_raised))) (l_raised : K.lookup f_raised = some ⟨oc_raised, od_raised, .func (PySem.W.fnOf "raised" "raised" (defArgs s_raised) (defBody s_raised) (defScope s_raised) .none kV_raised dc_raised pm_raised an_raised cd_raised ct_raised), sl_raised⟩) (c_raised : PySem.W.codeIn K cd_raised "raised" = true) (k_raised : PySem.W.keepIn K (.ref f_raised) = true)
    (a_slope : PySem.W.nsIn K mainGlobals "slope" = some (some (.ref f_slope))) (l_slope : K.lookup f_slope = some ⟨oc_slope, od_slope, .func (PySem.W.fnOf "slope" "slope" (defArgs s_slope) (defBody s_slope) (defScope s_slope) .none kV_slope dc_slope pm_slope an_slope cd_slope ct_slope), sl_slope⟩) (c_slope : PySem.W.codeIn K cd_slope "slope" = true) (k_slope : PySem.W.keepIn K (.ref f_slope) = true)
    (a_whole_of : PySem.W.nsIn K mainGlobals "whole_of" = some (some (.ref f_whole_of))) (l_whole_of : K.lookup f_whole_of = some ⟨oc_whole_of, od_whole_of, .func (PySem.W.fnOf "whole_of" "whole_of" (defArgs s_whole_of) (defBody s_whole_of) (defScope s_whole_of) .none kV_whole_of dc_whole_of pm_whole_of an_whole_of cd_whole_of ct_whole_of), sl_whole_of⟩) (c_whole_of : PySem.W.codeIn K cd_whole_of "whole_of" = true) (k_whole_of : PySem.W.keepIn K (.ref f_whole_of) = true)
    (a_power_of : PySem.W.nsIn K mainGlobals "power_of" = some (some (.ref f_power_of))) (l_power_of : K.lookup f_power_of = some ⟨oc_power_of, od_power_of, .func (PySem.W.fnOf "power_of" "power_of" (defArgs s_power_of) (defBody s_power_of) (defScope s_power_of) .none kV_power_of dc_power_of pm_power_of an_power_of cd_power_of ct_power_of), sl_power_of⟩) (c_power_of : PySem.W.codeIn K cd_power_of "power_of" = true) (k_power_of : PySem.W.keepIn K (.ref f_power_of) = true)
    (a_read_term : PySem.W.nsIn K mainGlobals "read_term" = some (some (.ref f_read_term))) (l_read_term : K.lookup f_read_term = some ⟨oc_read_term, od_read_term, .func (PySem.W.fnOf "read_term" "read_term" (defArgs s_read_term) (defBody s_read_term) (defScope s_read_term) .none kV_read_term dc_read_term pm_read_term an_read_term cd_read_term ct_read_term), sl_read_term⟩) (c_read_term : PySem.W.codeIn K cd_read_term "read_term" = true) (k_read_term : PySem.W.keepIn K (.ref f_read_term) = true)
    (a_read : PySem.W.nsIn K mainGlobals "read" = some (some (.ref f_read))) (l_read : K.lookup f_read = some ⟨oc_read, od_read, .func (PySem.W.fnOf "read" "read" (defArgs s_read) (defBody s_read) (defScope s_read) .none kV_read dc_read pm_read an_read cd_read ct_read), sl_read⟩) (c_read : PySem.W.codeIn K cd_read "read" = true) (k_read : PySem.W.keepIn K (.ref f_read) = true)
    (a_greatest : PySem.W.nsIn K mainGlobals "greatest" = some (some (.ref f_greatest))) (l_greatest : K.lookup f_greatest = some ⟨oc_greatest, od_greatest, .func (PySem.W.fnOf "greatest" "greatest" (defArgs s_greatest) (defBody s_greatest) (defScope s_greatest) .none kV_greatest dc_greatest pm_greatest an_greatest cd_greatest ct_greatest), sl_greatest⟩) (c_greatest : PySem.W.codeIn K cd_greatest "greatest" = true) (k_greatest : PySem.W.keepIn K (.ref f_greatest) = true)
    (a_content : PySem.W.nsIn K mainGlobals "content" = some (some (.ref f_content))) (l_content : K.lookup f_content = some ⟨oc_content, od_content, .func (PySem.W.fnOf "content" "content" (defArgs s_content) (defBody s_content) (defScope s_content) .none kV_content dc_content pm_content an_content cd_content ct_content), sl_content⟩) (c_content : PySem.W.codeIn K cd_content "content" = true) (k_content : PySem.W.keepIn K (.ref f_content) = true)
    (a_signed_content : PySem.W.nsIn K mainGlobals "signed_content" = some (some (.ref f_signed_content))) (l_signed_content : K.lookup f_signed_content = some ⟨oc_signed_content, od_signed_content, .func (PySem.W.fnOf "signed_content" "signed_content" (defArgs s_signed_content) (defBody s_signed_content) (defScope s_signed_content) .none kV_signed_content dc_signed_content pm_signed_content an_signed_content cd_signed_content ct_signed_content), sl_signed_content⟩) (c_signed_content : PySem.W.codeIn K cd_signed_content "signed_content" = true) (k_signed_content : PySem.W.keepIn K (.ref f_signed_content) = true)
    (a_simple : PySem.W.nsIn K mainGlobals "simple" = some (some (.ref f_simple))) (l_simple : K.lookup f_simple = some ⟨oc_simple, od_simple, .func (PySem.W.fnOf "simple" "simple" (defArgs s_simple) (defBody s_simple) (defScope s_simple) .none kV_simple dc_simple pm_simple an_simple cd_simple ct_simple), sl_simple⟩) (c_simple : PySem.W.codeIn K cd_simple "simple" = true) (k_simple : PySem.W.keepIn K (.ref f_simple) = true)
    (a_divided : PySem.W.nsIn K mainGlobals "divided" = some (some (.ref f_divided))) (l_divided : K.lookup f_divided = some ⟨oc_divided, od_divided, .func (PySem.W.fnOf "divided" "divided" (defArgs s_divided) (defBody s_divided) (defScope s_divided) .none kV_divided dc_divided pm_divided an_divided cd_divided ct_divided), sl_divided⟩) (c_divided : PySem.W.codeIn K cd_divided "divided" = true) (k_divided : PySem.W.keepIn K (.ref f_divided) = true)
    (a_quotient : PySem.W.nsIn K mainGlobals "quotient" = some (some (.ref f_quotient))) (l_quotient : K.lookup f_quotient = some ⟨oc_quotient, od_quotient, .func (PySem.W.fnOf "quotient" "quotient" (defArgs s_quotient) (defBody s_quotient) (defScope s_quotient) .none kV_quotient dc_quotient pm_quotient an_quotient cd_quotient ct_quotient), sl_quotient⟩) (c_quotient : PySem.W.codeIn K cd_quotient "quotient" = true) (k_quotient : PySem.W.keepIn K (.ref f_quotient) = true)
    (a_shared : PySem.W.nsIn K mainGlobals "shared" = some (some (.ref f_shared))) (l_shared : K.lookup f_shared = some ⟨oc_shared, od_shared, .func (PySem.W.fnOf "shared" "shared" (defArgs s_shared) (defBody s_shared) (defScope s_shared) .none kV_shared dc_shared pm_shared an_shared cd_shared ct_shared), sl_shared⟩) (c_shared : PySem.W.codeIn K cd_shared "shared" = true) (k_shared : PySem.W.keepIn K (.ref f_shared) = true)
    (a_begun : PySem.W.nsIn K mainGlobals "begun" = some (some (.ref f_begun))) (l_begun : K.lookup f_begun = some ⟨oc_begun, od_begun, .func (PySem.W.fnOf "begun" "begun" (defArgs s_begun) (defBody s_begun) (defScope s_begun) .none kV_begun dc_begun pm_begun an_begun cd_begun ct_begun), sl_begun⟩) (c_begun : PySem.W.codeIn K cd_begun "begun" = true) (k_begun : PySem.W.keepIn K (.ref f_begun) = true)
    (a_behind : PySem.W.nsIn K mainGlobals "behind" = some (some (.ref f_behind))) (l_behind : K.lookup f_behind = some ⟨oc_behind, od_behind, .func (PySem.W.fnOf "behind" "behind" (defArgs s_behind) (defBody s_behind) (defScope s_behind) .none kV_behind dc_behind pm_behind an_behind cd_behind ct_behind), sl_behind⟩) (c_behind : PySem.W.codeIn K cd_behind "behind" = true) (k_behind : PySem.W.keepIn K (.ref f_behind) = true)
    (a_meet : PySem.W.nsIn K mainGlobals "meet" = some (some (.ref f_meet))) (l_meet : K.lookup f_meet = some ⟨oc_meet, od_meet, .func (PySem.W.fnOf "meet" "meet" (defArgs s_meet) (defBody s_meet) (defScope s_meet) .none kV_meet dc_meet pm_meet an_meet cd_meet ct_meet), sl_meet⟩) (c_meet : PySem.W.codeIn K cd_meet "meet" = true) (k_meet : PySem.W.keepIn K (.ref f_meet) = true)
    (a_parts : PySem.W.nsIn K mainGlobals "parts" = some (some (.ref f_parts))) (l_parts : K.lookup f_parts = some ⟨oc_parts, od_parts, .func (PySem.W.fnOf "parts" "parts" (defArgs s_parts) (defBody s_parts) (defScope s_parts) .none kV_parts dc_parts pm_parts an_parts cd_parts ct_parts), sl_parts⟩) (c_parts : PySem.W.codeIn K cd_parts "parts" = true) (k_parts : PySem.W.keepIn K (.ref f_parts) = true)
    (a__law_whole : PySem.W.nsIn K mainGlobals "_law_whole" = some (some (.ref f__law_whole))) (l__law_whole : K.lookup f__law_whole = some ⟨oc__law_whole, od__law_whole, .func (PySem.W.fnOf "_law_whole" "_law_whole" (defArgs s__law_whole) (defBody s__law_whole) (defScope s__law_whole) .none kV__law_whole dc__law_whole pm__law_whole an__law_whole cd__law_whole ct__law_whole), sl__law_whole⟩) (c__law_whole : PySem.W.codeIn K cd__law_whole "_law_whole" = true) (k__law_whole : PySem.W.keepIn K (.ref f__law_whole) = true)
    (a__law_cell_at : PySem.W.nsIn K mainGlobals "_law_cell_at" = some (some (.ref f__law_cell_at))) (l__law_cell_at : K.lookup f__law_cell_at = some ⟨oc__law_cell_at, od__law_cell_at, .func (PySem.W.fnOf "_law_cell_at" "_law_cell_at" (defArgs s__law_cell_at) (defBody s__law_cell_at) (defScope s__law_cell_at) .none kV__law_cell_at dc__law_cell_at pm__law_cell_at an__law_cell_at cd__law_cell_at ct__law_cell_at), sl__law_cell_at⟩) (c__law_cell_at : PySem.W.codeIn K cd__law_cell_at "_law_cell_at" = true) (k__law_cell_at : PySem.W.keepIn K (.ref f__law_cell_at) = true)
    (a__law_trim : PySem.W.nsIn K mainGlobals "_law_trim" = some (some (.ref f__law_trim))) (l__law_trim : K.lookup f__law_trim = some ⟨oc__law_trim, od__law_trim, .func (PySem.W.fnOf "_law_trim" "_law_trim" (defArgs s__law_trim) (defBody s__law_trim) (defScope s__law_trim) .none kV__law_trim dc__law_trim pm__law_trim an__law_trim cd__law_trim ct__law_trim), sl__law_trim⟩) (c__law_trim : PySem.W.codeIn K cd__law_trim "_law_trim" = true) (k__law_trim : PySem.W.keepIn K (.ref f__law_trim) = true)
    (a__law_same : PySem.W.nsIn K mainGlobals "_law_same" = some (some (.ref f__law_same))) (l__law_same : K.lookup f__law_same = some ⟨oc__law_same, od__law_same, .func (PySem.W.fnOf "_law_same" "_law_same" (defArgs s__law_same) (defBody s__law_same) (defScope s__law_same) .none kV__law_same dc__law_same pm__law_same an__law_same cd__law_same ct__law_same), sl__law_same⟩) (c__law_same : PySem.W.codeIn K cd__law_same "_law_same" = true) (k__law_same : PySem.W.keepIn K (.ref f__law_same) = true)
    (a__law_number : PySem.W.nsIn K mainGlobals "_law_number" = some (some (.ref f__law_number))) (l__law_number : K.lookup f__law_number = some ⟨oc__law_number, od__law_number, .func (PySem.W.fnOf "_law_number" "_law_number" (defArgs s__law_number) (defBody s__law_number) (defScope s__law_number) .none kV__law_number dc__law_number pm__law_number an__law_number cd__law_number ct__law_number), sl__law_number⟩) (c__law_number : PySem.W.codeIn K cd__law_number "_law_number" = true) (k__law_number : PySem.W.keepIn K (.ref f__law_number) = true)
    (a__law_drawn : PySem.W.nsIn K mainGlobals "_law_drawn" = some (some (.ref f__law_drawn))) (l__law_drawn : K.lookup f__law_drawn = some ⟨oc__law_drawn, od__law_drawn, .func (PySem.W.fnOf "_law_drawn" "_law_drawn" (defArgs s__law_drawn) (defBody s__law_drawn) (defScope s__law_drawn) .none kV__law_drawn dc__law_drawn pm__law_drawn an__law_drawn cd__law_drawn ct__law_drawn), sl__law_drawn⟩) (c__law_drawn : PySem.W.codeIn K cd__law_drawn "_law_drawn" = true) (k__law_drawn : PySem.W.keepIn K (.ref f__law_drawn) = true)
    (a__law_written : PySem.W.nsIn K mainGlobals "_law_written" = some (some (.ref f__law_written))) (l__law_written : K.lookup f__law_written = some ⟨oc__law_written, od__law_written, .func (PySem.W.fnOf "_law_written" "_law_written" (defArgs s__law_written) (defBody s__law_written) (defScope s__law_written) .none kV__law_written dc__law_written pm__law_written an__law_written cd__law_written ct__law_written), sl__law_written⟩) (c__law_written : PySem.W.codeIn K cd__law_written "_law_written" = true) (k__law_written : PySem.W.keepIn K (.ref f__law_written) = true)
    (a__law_figures : PySem.W.nsIn K mainGlobals "_law_figures" = some (some (.ref f__law_figures))) (l__law_figures : K.lookup f__law_figures = some ⟨oc__law_figures, od__law_figures, .func (PySem.W.fnOf "_law_figures" "_law_figures" (defArgs s__law_figures) (defBody s__law_figures) (defScope s__law_figures) .none kV__law_figures dc__law_figures pm__law_figures an__law_figures cd__law_figures ct__law_figures), sl__law_figures⟩) (c__law_figures : PySem.W.codeIn K cd__law_figures "_law_figures" = true) (k__law_figures : PySem.W.keepIn K (.ref f__law_figures) = true)
    (a__law_term : PySem.W.nsIn K mainGlobals "_law_term" = some (some (.ref f__law_term))) (l__law_term : K.lookup f__law_term = some ⟨oc__law_term, od__law_term, .func (PySem.W.fnOf "_law_term" "_law_term" (defArgs s__law_term) (defBody s__law_term) (defScope s__law_term) .none kV__law_term dc__law_term pm__law_term an__law_term cd__law_term ct__law_term), sl__law_term⟩) (c__law_term : PySem.W.codeIn K cd__law_term "_law_term" = true) (k__law_term : PySem.W.keepIn K (.ref f__law_term) = true)
    (a__law_due : PySem.W.nsIn K mainGlobals "_law_due" = some (some (.ref f__law_due))) (l__law_due : K.lookup f__law_due = some ⟨oc__law_due, od__law_due, .func (PySem.W.fnOf "_law_due" "_law_due" (defArgs s__law_due) (defBody s__law_due) (defScope s__law_due) .none kV__law_due dc__law_due pm__law_due an__law_due cd__law_due ct__law_due), sl__law_due⟩) (c__law_due : PySem.W.codeIn K cd__law_due "_law_due" = true) (k__law_due : PySem.W.keepIn K (.ref f__law_due) = true)
    (a__law_odd : PySem.W.nsIn K mainGlobals "_law_odd" = some (some (.ref f__law_odd))) (l__law_odd : K.lookup f__law_odd = some ⟨oc__law_odd, od__law_odd, .func (PySem.W.fnOf "_law_odd" "_law_odd" (defArgs s__law_odd) (defBody s__law_odd) (defScope s__law_odd) .none kV__law_odd dc__law_odd pm__law_odd an__law_odd cd__law_odd ct__law_odd), sl__law_odd⟩) (c__law_odd : PySem.W.codeIn K cd__law_odd "_law_odd" = true) (k__law_odd : PySem.W.keepIn K (.ref f__law_odd) = true)
    (a__law_sign : PySem.W.nsIn K mainGlobals "_law_sign" = some (some (.ref f__law_sign))) (l__law_sign : K.lookup f__law_sign = some ⟨oc__law_sign, od__law_sign, .func (PySem.W.fnOf "_law_sign" "_law_sign" (defArgs s__law_sign) (defBody s__law_sign) (defScope s__law_sign) .none kV__law_sign dc__law_sign pm__law_sign an__law_sign cd__law_sign ct__law_sign), sl__law_sign⟩) (c__law_sign : PySem.W.codeIn K cd__law_sign "_law_sign" = true) (k__law_sign : PySem.W.keepIn K (.ref f__law_sign) = true)
    (a__law_turned : PySem.W.nsIn K mainGlobals "_law_turned" = some (some (.ref f__law_turned))) (l__law_turned : K.lookup f__law_turned = some ⟨oc__law_turned, od__law_turned, .func (PySem.W.fnOf "_law_turned" "_law_turned" (defArgs s__law_turned) (defBody s__law_turned) (defScope s__law_turned) .none kV__law_turned dc__law_turned pm__law_turned an__law_turned cd__law_turned ct__law_turned), sl__law_turned⟩) (c__law_turned : PySem.W.codeIn K cd__law_turned "_law_turned" = true) (k__law_turned : PySem.W.keepIn K (.ref f__law_turned) = true)
    (a__law_refuse : PySem.W.nsIn K mainGlobals "_law_refuse" = some (some (.ref f__law_refuse))) (l__law_refuse : K.lookup f__law_refuse = some ⟨oc__law_refuse, od__law_refuse, .func (PySem.W.fnOf "_law_refuse" "_law_refuse" (defArgs s__law_refuse) (defBody s__law_refuse) (defScope s__law_refuse) .none kV__law_refuse dc__law_refuse pm__law_refuse an__law_refuse cd__law_refuse ct__law_refuse), sl__law_refuse⟩) (c__law_refuse : PySem.W.codeIn K cd__law_refuse "_law_refuse" = true) (k__law_refuse : PySem.W.keepIn K (.ref f__law_refuse) = true)
    (a__law_first : PySem.W.nsIn K mainGlobals "_law_first" = some (some (.ref f__law_first))) (l__law_first : K.lookup f__law_first = some ⟨oc__law_first, od__law_first, .func (PySem.W.fnOf "_law_first" "_law_first" (defArgs s__law_first) (defBody s__law_first) (defScope s__law_first) .none kV__law_first dc__law_first pm__law_first an__law_first cd__law_first ct__law_first), sl__law_first⟩) (c__law_first : PySem.W.codeIn K cd__law_first "_law_first" = true) (k__law_first : PySem.W.keepIn K (.ref f__law_first) = true)
    (a__law_last : PySem.W.nsIn K mainGlobals "_law_last" = some (some (.ref f__law_last))) (l__law_last : K.lookup f__law_last = some ⟨oc__law_last, od__law_last, .func (PySem.W.fnOf "_law_last" "_law_last" (defArgs s__law_last) (defBody s__law_last) (defScope s__law_last) .none kV__law_last dc__law_last pm__law_last an__law_last cd__law_last ct__law_last), sl__law_last⟩) (c__law_last : PySem.W.codeIn K cd__law_last "_law_last" = true) (k__law_last : PySem.W.keepIn K (.ref f__law_last) = true)
    (a__law_refused : PySem.W.nsIn K mainGlobals "_law_refused" = some (some (.ref f__law_refused))) (l__law_refused : K.lookup f__law_refused = some ⟨oc__law_refused, od__law_refused, .func (PySem.W.fnOf "_law_refused" "_law_refused" (defArgs s__law_refused) (defBody s__law_refused) (defScope s__law_refused) .none kV__law_refused dc__law_refused pm__law_refused an__law_refused cd__law_refused ct__law_refused), sl__law_refused⟩) (c__law_refused : PySem.W.codeIn K cd__law_refused "_law_refused" = true) (k__law_refused : PySem.W.keepIn K (.ref f__law_refused) = true)
    (a_law : PySem.W.nsIn K mainGlobals "law" = some (some (.ref f_law))) (l_law : K.lookup f_law = some ⟨oc_law, od_law, .func (PySem.W.fnOf "law" "law" (defArgs s_law) (defBody s_law) (defScope s_law) .none kV_law dc_law pm_law an_law cd_law ct_law), sl_law⟩) (c_law : PySem.W.codeIn K cd_law "law" = true) (k_law : PySem.W.keepIn K (.ref f_law) = true)
    {A_PolyError : Addr} (g_PolyError : PySem.W.nsIn K mainGlobals "PolyError" = some (some (.ref A_PolyError))) (x_PolyError : PySem.W.excIn K A_PolyError veT "ValueError.__new__" = true) (k_PolyError : PySem.W.keepIn K (.ref A_PolyError) = true) (b_PolyError : PySem.W.subIn K (.ref A_PolyError) (.type "BaseException") = some true) (t_PolyError : PySem.W.typeIn K (.ref A_PolyError) = some (.type "type")) (h_PolyError : PySem.W.hasDictIn K A_PolyError = true)
    (ig_PolyError : PySem.W.findIn K (.ref A_PolyError) "__getattribute__" = some (some (.builtin "BaseException.__getattribute__"))) (ik_PolyError : PySem.W.findIn K (.ref A_PolyError) "__getattr__" = some none) (ia_PolyError : PySem.W.findIn K (.ref A_PolyError) "__class__" = some (some (.builtin "object.__class__"))) (in_PolyError : PySem.W.specialIn K (.builtin "object.__class__") "__get__" = some (some (.builtin "getset_descriptor.__get__"))) (it_PolyError : PySem.W.takesIn K (.builtin "object.__class__") = some true) (im_PolyError : PySem.W.mroIn K A_PolyError (.type "object") = some true) (v_PolyError : PySem.W.subIn K (.ref A_PolyError) (.type "ValueError") = some true)
    {A_NoNumber : Addr} (g_NoNumber : PySem.W.nsIn K mainGlobals "NoNumber" = some (some (.ref A_NoNumber))) (x_NoNumber : PySem.W.excIn K A_NoNumber veT "ValueError.__new__" = true) (k_NoNumber : PySem.W.keepIn K (.ref A_NoNumber) = true) (b_NoNumber : PySem.W.subIn K (.ref A_NoNumber) (.type "BaseException") = some true) (t_NoNumber : PySem.W.typeIn K (.ref A_NoNumber) = some (.type "type")) (h_NoNumber : PySem.W.hasDictIn K A_NoNumber = true)
    (ig_NoNumber : PySem.W.findIn K (.ref A_NoNumber) "__getattribute__" = some (some (.builtin "BaseException.__getattribute__"))) (ik_NoNumber : PySem.W.findIn K (.ref A_NoNumber) "__getattr__" = some none) (ia_NoNumber : PySem.W.findIn K (.ref A_NoNumber) "__class__" = some (some (.builtin "object.__class__"))) (in_NoNumber : PySem.W.specialIn K (.builtin "object.__class__") "__get__" = some (some (.builtin "getset_descriptor.__get__"))) (it_NoNumber : PySem.W.takesIn K (.builtin "object.__class__") = some true) (im_NoNumber : PySem.W.mroIn K A_NoNumber (.type "object") = some true) (v_NoNumber : PySem.W.subIn K (.ref A_NoNumber) (.type "ValueError") = some true)
    {A_NoPower : Addr} (g_NoPower : PySem.W.nsIn K mainGlobals "NoPower" = some (some (.ref A_NoPower))) (x_NoPower : PySem.W.excIn K A_NoPower veT "ValueError.__new__" = true) (k_NoPower : PySem.W.keepIn K (.ref A_NoPower) = true) (b_NoPower : PySem.W.subIn K (.ref A_NoPower) (.type "BaseException") = some true) (t_NoPower : PySem.W.typeIn K (.ref A_NoPower) = some (.type "type")) (h_NoPower : PySem.W.hasDictIn K A_NoPower = true)
    (ig_NoPower : PySem.W.findIn K (.ref A_NoPower) "__getattribute__" = some (some (.builtin "BaseException.__getattribute__"))) (ik_NoPower : PySem.W.findIn K (.ref A_NoPower) "__getattr__" = some none) (ia_NoPower : PySem.W.findIn K (.ref A_NoPower) "__class__" = some (some (.builtin "object.__class__"))) (in_NoPower : PySem.W.specialIn K (.builtin "object.__class__") "__get__" = some (some (.builtin "getset_descriptor.__get__"))) (it_NoPower : PySem.W.takesIn K (.builtin "object.__class__") = some true) (im_NoPower : PySem.W.mroIn K A_NoPower (.type "object") = some true) (v_NoPower : PySem.W.subIn K (.ref A_NoPower) (.type "ValueError") = some true)
    {A_ByNought : Addr} (g_ByNought : PySem.W.nsIn K mainGlobals "ByNought" = some (some (.ref A_ByNought))) (x_ByNought : PySem.W.excIn K A_ByNought veT "ValueError.__new__" = true) (k_ByNought : PySem.W.keepIn K (.ref A_ByNought) = true) (b_ByNought : PySem.W.subIn K (.ref A_ByNought) (.type "BaseException") = some true) (t_ByNought : PySem.W.typeIn K (.ref A_ByNought) = some (.type "type")) (h_ByNought : PySem.W.hasDictIn K A_ByNought = true)
    (ig_ByNought : PySem.W.findIn K (.ref A_ByNought) "__getattribute__" = some (some (.builtin "BaseException.__getattribute__"))) (ik_ByNought : PySem.W.findIn K (.ref A_ByNought) "__getattr__" = some none) (ia_ByNought : PySem.W.findIn K (.ref A_ByNought) "__class__" = some (some (.builtin "object.__class__"))) (in_ByNought : PySem.W.specialIn K (.builtin "object.__class__") "__get__" = some (some (.builtin "getset_descriptor.__get__"))) (it_ByNought : PySem.W.takesIn K (.builtin "object.__class__") = some true) (im_ByNought : PySem.W.mroIn K A_ByNought (.type "object") = some true) (v_ByNought : PySem.W.subIn K (.ref A_ByNought) (.type "ValueError") = some true)
    {A_NotWhole : Addr} (g_NotWhole : PySem.W.nsIn K mainGlobals "NotWhole" = some (some (.ref A_NotWhole))) (x_NotWhole : PySem.W.excIn K A_NotWhole veT "ValueError.__new__" = true) (k_NotWhole : PySem.W.keepIn K (.ref A_NotWhole) = true) (b_NotWhole : PySem.W.subIn K (.ref A_NotWhole) (.type "BaseException") = some true) (t_NotWhole : PySem.W.typeIn K (.ref A_NotWhole) = some (.type "type")) (h_NotWhole : PySem.W.hasDictIn K A_NotWhole = true)
    (ig_NotWhole : PySem.W.findIn K (.ref A_NotWhole) "__getattribute__" = some (some (.builtin "BaseException.__getattribute__"))) (ik_NotWhole : PySem.W.findIn K (.ref A_NotWhole) "__getattr__" = some none) (ia_NotWhole : PySem.W.findIn K (.ref A_NotWhole) "__class__" = some (some (.builtin "object.__class__"))) (in_NotWhole : PySem.W.specialIn K (.builtin "object.__class__") "__get__" = some (some (.builtin "getset_descriptor.__get__"))) (it_NotWhole : PySem.W.takesIn K (.builtin "object.__class__") = some true) (im_NotWhole : PySem.W.mroIn K A_NotWhole (.type "object") = some true) (v_NotWhole : PySem.W.subIn K (.ref A_NotWhole) (.type "ValueError") = some true)
    {A_NoMeet : Addr} (g_NoMeet : PySem.W.nsIn K mainGlobals "NoMeet" = some (some (.ref A_NoMeet))) (x_NoMeet : PySem.W.excIn K A_NoMeet veT "ValueError.__new__" = true) (k_NoMeet : PySem.W.keepIn K (.ref A_NoMeet) = true) (b_NoMeet : PySem.W.subIn K (.ref A_NoMeet) (.type "BaseException") = some true) (t_NoMeet : PySem.W.typeIn K (.ref A_NoMeet) = some (.type "type")) (h_NoMeet : PySem.W.hasDictIn K A_NoMeet = true)
    (ig_NoMeet : PySem.W.findIn K (.ref A_NoMeet) "__getattribute__" = some (some (.builtin "BaseException.__getattribute__"))) (ik_NoMeet : PySem.W.findIn K (.ref A_NoMeet) "__getattr__" = some none) (ia_NoMeet : PySem.W.findIn K (.ref A_NoMeet) "__class__" = some (some (.builtin "object.__class__"))) (in_NoMeet : PySem.W.specialIn K (.builtin "object.__class__") "__get__" = some (some (.builtin "getset_descriptor.__get__"))) (it_NoMeet : PySem.W.takesIn K (.builtin "object.__class__") = some true) (im_NoMeet : PySem.W.mroIn K A_NoMeet (.type "object") = some true) (v_NoMeet : PySem.W.subIn K (.ref A_NoMeet) (.type "ValueError") = some true)
    {A_NoParts : Addr} (g_NoParts : PySem.W.nsIn K mainGlobals "NoParts" = some (some (.ref A_NoParts))) (x_NoParts : PySem.W.excIn K A_NoParts veT "ValueError.__new__" = true) (k_NoParts : PySem.W.keepIn K (.ref A_NoParts) = true) (b_NoParts : PySem.W.subIn K (.ref A_NoParts) (.type "BaseException") = some true) (t_NoParts : PySem.W.typeIn K (.ref A_NoParts) = some (.type "type")) (h_NoParts : PySem.W.hasDictIn K A_NoParts = true)
    (ig_NoParts : PySem.W.findIn K (.ref A_NoParts) "__getattribute__" = some (some (.builtin "BaseException.__getattribute__"))) (ik_NoParts : PySem.W.findIn K (.ref A_NoParts) "__getattr__" = some none) (ia_NoParts : PySem.W.findIn K (.ref A_NoParts) "__class__" = some (some (.builtin "object.__class__"))) (in_NoParts : PySem.W.specialIn K (.builtin "object.__class__") "__get__" = some (some (.builtin "getset_descriptor.__get__"))) (it_NoParts : PySem.W.takesIn K (.builtin "object.__class__") = some true) (im_NoParts : PySem.W.mroIn K A_NoParts (.type "object") = some true) (v_NoParts : PySem.W.subIn K (.ref A_NoParts) (.type "ValueError") = some true)
    {A_NotWritten : Addr} (g_NotWritten : PySem.W.nsIn K mainGlobals "NotWritten" = some (some (.ref A_NotWritten))) (x_NotWritten : PySem.W.excIn K A_NotWritten veT "ValueError.__new__" = true) (k_NotWritten : PySem.W.keepIn K (.ref A_NotWritten) = true) (b_NotWritten : PySem.W.subIn K (.ref A_NotWritten) (.type "BaseException") = some true) (t_NotWritten : PySem.W.typeIn K (.ref A_NotWritten) = some (.type "type")) (h_NotWritten : PySem.W.hasDictIn K A_NotWritten = true)
    (ig_NotWritten : PySem.W.findIn K (.ref A_NotWritten) "__getattribute__" = some (some (.builtin "BaseException.__getattribute__"))) (ik_NotWritten : PySem.W.findIn K (.ref A_NotWritten) "__getattr__" = some none) (ia_NotWritten : PySem.W.findIn K (.ref A_NotWritten) "__class__" = some (some (.builtin "object.__class__"))) (in_NotWritten : PySem.W.specialIn K (.builtin "object.__class__") "__get__" = some (some (.builtin "getset_descriptor.__get__"))) (it_NotWritten : PySem.W.takesIn K (.builtin "object.__class__") = some true) (im_NotWritten : PySem.W.mroIn K A_NotWritten (.type "object") = some true) (v_NotWritten : PySem.W.subIn K (.ref A_NotWritten) (.type "ValueError") = some true)
    (u_NoNumber_NoNumber : PySem.W.subIn K (.ref A_NoNumber) (.ref A_NoNumber) = some true)
    (u_NoNumber_NoPower : PySem.W.subIn K (.ref A_NoNumber) (.ref A_NoPower) = some false)
    (u_NoNumber_ByNought : PySem.W.subIn K (.ref A_NoNumber) (.ref A_ByNought) = some false)
    (u_NoNumber_NotWhole : PySem.W.subIn K (.ref A_NoNumber) (.ref A_NotWhole) = some false)
    (u_NoNumber_NoMeet : PySem.W.subIn K (.ref A_NoNumber) (.ref A_NoMeet) = some false)
    (u_NoNumber_NoParts : PySem.W.subIn K (.ref A_NoNumber) (.ref A_NoParts) = some false)
    (u_NoNumber_NotWritten : PySem.W.subIn K (.ref A_NoNumber) (.ref A_NotWritten) = some false)
    (u_NoPower_NoNumber : PySem.W.subIn K (.ref A_NoPower) (.ref A_NoNumber) = some false)
    (u_NoPower_NoPower : PySem.W.subIn K (.ref A_NoPower) (.ref A_NoPower) = some true)
    (u_NoPower_ByNought : PySem.W.subIn K (.ref A_NoPower) (.ref A_ByNought) = some false)
    (u_NoPower_NotWhole : PySem.W.subIn K (.ref A_NoPower) (.ref A_NotWhole) = some false)
    (u_NoPower_NoMeet : PySem.W.subIn K (.ref A_NoPower) (.ref A_NoMeet) = some false)
    (u_NoPower_NoParts : PySem.W.subIn K (.ref A_NoPower) (.ref A_NoParts) = some false)
    (u_NoPower_NotWritten : PySem.W.subIn K (.ref A_NoPower) (.ref A_NotWritten) = some false)
    (u_ByNought_NoNumber : PySem.W.subIn K (.ref A_ByNought) (.ref A_NoNumber) = some false)
    (u_ByNought_NoPower : PySem.W.subIn K (.ref A_ByNought) (.ref A_NoPower) = some false)
    (u_ByNought_ByNought : PySem.W.subIn K (.ref A_ByNought) (.ref A_ByNought) = some true)
    (u_ByNought_NotWhole : PySem.W.subIn K (.ref A_ByNought) (.ref A_NotWhole) = some false)
    (u_ByNought_NoMeet : PySem.W.subIn K (.ref A_ByNought) (.ref A_NoMeet) = some false)
    (u_ByNought_NoParts : PySem.W.subIn K (.ref A_ByNought) (.ref A_NoParts) = some false)
    (u_ByNought_NotWritten : PySem.W.subIn K (.ref A_ByNought) (.ref A_NotWritten) = some false)
    (u_NotWhole_NoNumber : PySem.W.subIn K (.ref A_NotWhole) (.ref A_NoNumber) = some false)
    (u_NotWhole_NoPower : PySem.W.subIn K (.ref A_NotWhole) (.ref A_NoPower) = some false)
    (u_NotWhole_ByNought : PySem.W.subIn K (.ref A_NotWhole) (.ref A_ByNought) = some false)
    (u_NotWhole_NotWhole : PySem.W.subIn K (.ref A_NotWhole) (.ref A_NotWhole) = some true)
    (u_NotWhole_NoMeet : PySem.W.subIn K (.ref A_NotWhole) (.ref A_NoMeet) = some false)
    (u_NotWhole_NoParts : PySem.W.subIn K (.ref A_NotWhole) (.ref A_NoParts) = some false)
    (u_NotWhole_NotWritten : PySem.W.subIn K (.ref A_NotWhole) (.ref A_NotWritten) = some false)
    (u_NoMeet_NoNumber : PySem.W.subIn K (.ref A_NoMeet) (.ref A_NoNumber) = some false)
    (u_NoMeet_NoPower : PySem.W.subIn K (.ref A_NoMeet) (.ref A_NoPower) = some false)
    (u_NoMeet_ByNought : PySem.W.subIn K (.ref A_NoMeet) (.ref A_ByNought) = some false)
    (u_NoMeet_NotWhole : PySem.W.subIn K (.ref A_NoMeet) (.ref A_NotWhole) = some false)
    (u_NoMeet_NoMeet : PySem.W.subIn K (.ref A_NoMeet) (.ref A_NoMeet) = some true)
    (u_NoMeet_NoParts : PySem.W.subIn K (.ref A_NoMeet) (.ref A_NoParts) = some false)
    (u_NoMeet_NotWritten : PySem.W.subIn K (.ref A_NoMeet) (.ref A_NotWritten) = some false)
    (u_NoParts_NoNumber : PySem.W.subIn K (.ref A_NoParts) (.ref A_NoNumber) = some false)
    (u_NoParts_NoPower : PySem.W.subIn K (.ref A_NoParts) (.ref A_NoPower) = some false)
    (u_NoParts_ByNought : PySem.W.subIn K (.ref A_NoParts) (.ref A_ByNought) = some false)
    (u_NoParts_NotWhole : PySem.W.subIn K (.ref A_NoParts) (.ref A_NotWhole) = some false)
    (u_NoParts_NoMeet : PySem.W.subIn K (.ref A_NoParts) (.ref A_NoMeet) = some false)
    (u_NoParts_NoParts : PySem.W.subIn K (.ref A_NoParts) (.ref A_NoParts) = some true)
    (u_NoParts_NotWritten : PySem.W.subIn K (.ref A_NoParts) (.ref A_NotWritten) = some false)
    (u_NotWritten_NoNumber : PySem.W.subIn K (.ref A_NotWritten) (.ref A_NoNumber) = some false)
    (u_NotWritten_NoPower : PySem.W.subIn K (.ref A_NotWritten) (.ref A_NoPower) = some false)
    (u_NotWritten_ByNought : PySem.W.subIn K (.ref A_NotWritten) (.ref A_ByNought) = some false)
    (u_NotWritten_NotWhole : PySem.W.subIn K (.ref A_NotWritten) (.ref A_NotWhole) = some false)
    (u_NotWritten_NoMeet : PySem.W.subIn K (.ref A_NotWritten) (.ref A_NoMeet) = some false)
    (u_NotWritten_NoParts : PySem.W.subIn K (.ref A_NotWritten) (.ref A_NoParts) = some false)
    (u_NotWritten_NotWritten : PySem.W.subIn K (.ref A_NotWritten) (.ref A_NotWritten) = some true)
    (u_NotWritten_PolyError : PySem.W.subIn K (.ref A_NotWritten) (.ref A_PolyError) = some true)
    {tk_FIGURES : Tok} (g_FIGURES : PySem.W.nsIn K mainGlobals "FIGURES" = some (some (.str "0123456789" tk_FIGURES)))
    (z_ValueError : PySem.W.nsIn K mainGlobals "ValueError" = some none)
    (z_abs : PySem.W.nsIn K mainGlobals "abs" = some none)
    (z_bool : PySem.W.nsIn K mainGlobals "bool" = some none)
    (z_int : PySem.W.nsIn K mainGlobals "int" = some none)
    (z_isinstance : PySem.W.nsIn K mainGlobals "isinstance" = some none)
    (z_len : PySem.W.nsIn K mainGlobals "len" = some none)
    (z_list : PySem.W.nsIn K mainGlobals "list" = some none)
    (z_max : PySem.W.nsIn K mainGlobals "max" = some none)
    (z_range : PySem.W.nsIn K mainGlobals "range" = some none)
    (z_str : PySem.W.nsIn K mainGlobals "str" = some none)
    (hb0 : PySem.W.nsIn K cStatics sharingNotToldKey = some none) :
    ∃ fd : FuncData, (∀ (s : Shared) (v : Value), BindsTo s fd ⟨[v], []⟩ [("_law_script", v)]) ∧ ∀ base : Heap, K.In base → base.Ns mainGlobals mg →  FnOk l.prog w K mg base CX0 10 fa fd ["_law_script"] (sp_law K) := by
  have e := hfa.symm.trans (PySem.W.mg_of X G a_law)
  cases e
  have F_trimmed := fun_mk (st := s_trimmed) l_trimmed c_trimmed k_trimmed
  have b_trimmed := F_trimmed.binds (ps := ["row"]) fun _ _ _ _ _ _ us hl => match us, hl with | [_], _ => rfl
  have F_made := fun_mk (st := s_made) l_made c_made k_made
  have b_made := F_made.binds (ps := ["numbers"]) fun _ _ _ _ _ _ us hl => match us, hl with | [_], _ => rfl
  have F_number_at := fun_mk (st := s_number_at) l_number_at c_number_at k_number_at
  have b_number_at := F_number_at.binds (ps := ["row", "place"]) fun _ _ _ _ _ _ us hl => match us, hl with | [_, _], _ => rfl
  have F_minus := fun_mk (st := s_minus) l_minus c_minus k_minus
  have b_minus := F_minus.binds (ps := ["ones", "others"]) fun _ _ _ _ _ _ us hl => match us, hl with | [_, _], _ => rfl
  have F_scaled := fun_mk (st := s_scaled) l_scaled c_scaled k_scaled
  have b_scaled := F_scaled.binds (ps := ["row", "many"]) fun _ _ _ _ _ _ us hl => match us, hl with | [_, _], _ => rfl
  have F_times := fun_mk (st := s_times) l_times c_times k_times
  have b_times := F_times.binds (ps := ["ones", "others"]) fun _ _ _ _ _ _ us hl => match us, hl with | [_, _], _ => rfl
  have F_raised := fun_mk (st := s_raised) l_raised c_raised k_raised
  have b_raised := F_raised.binds (ps := ["row", "many"]) fun _ _ _ _ _ _ us hl => match us, hl with | [_, _], _ => rfl
  have F_slope := fun_mk (st := s_slope) l_slope c_slope k_slope
  have b_slope := F_slope.binds (ps := ["row"]) fun _ _ _ _ _ _ us hl => match us, hl with | [_], _ => rfl
  have F_whole_of := fun_mk (st := s_whole_of) l_whole_of c_whole_of k_whole_of
  have b_whole_of := F_whole_of.binds (ps := ["figures"]) fun _ _ _ _ _ _ us hl => match us, hl with | [_], _ => rfl
  have F_power_of := fun_mk (st := s_power_of) l_power_of c_power_of k_power_of
  have b_power_of := F_power_of.binds (ps := ["line"]) fun _ _ _ _ _ _ us hl => match us, hl with | [_], _ => rfl
  have F_read_term := fun_mk (st := s_read_term) l_read_term c_read_term k_read_term
  have b_read_term := F_read_term.binds (ps := ["line"]) fun _ _ _ _ _ _ us hl => match us, hl with | [_], _ => rfl
  have F_read := fun_mk (st := s_read) l_read c_read k_read
  have b_read := F_read.binds (ps := ["line"]) fun _ _ _ _ _ _ us hl => match us, hl with | [_], _ => rfl
  have F_greatest := fun_mk (st := s_greatest) l_greatest c_greatest k_greatest
  have b_greatest := F_greatest.binds (ps := ["one", "other"]) fun _ _ _ _ _ _ us hl => match us, hl with | [_, _], _ => rfl
  have F_content := fun_mk (st := s_content) l_content c_content k_content
  have b_content := F_content.binds (ps := ["row"]) fun _ _ _ _ _ _ us hl => match us, hl with | [_], _ => rfl
  have F_signed_content := fun_mk (st := s_signed_content) l_signed_content c_signed_content k_signed_content
  have b_signed_content := F_signed_content.binds (ps := ["row"]) fun _ _ _ _ _ _ us hl => match us, hl with | [_], _ => rfl
  have F_simple := fun_mk (st := s_simple) l_simple c_simple k_simple
  have b_simple := F_simple.binds (ps := ["row"]) fun _ _ _ _ _ _ us hl => match us, hl with | [_], _ => rfl
  have F_divided := fun_mk (st := s_divided) l_divided c_divided k_divided
  have b_divided := F_divided.binds (ps := ["row", "by"]) fun _ _ _ _ _ _ us hl => match us, hl with | [_, _], _ => rfl
  have F_quotient := fun_mk (st := s_quotient) l_quotient c_quotient k_quotient
  have b_quotient := F_quotient.binds (ps := ["row", "by"]) fun _ _ _ _ _ _ us hl => match us, hl with | [_, _], _ => rfl
  have F_shared := fun_mk (st := s_shared) l_shared c_shared k_shared
  have b_shared := F_shared.binds (ps := ["row", "ones", "others", "many"]) fun _ _ _ _ _ _ us hl => match us, hl with | [_, _, _, _], _ => rfl
  have F_begun := fun_mk (st := s_begun) l_begun c_begun k_begun
  have b_begun := F_begun.binds (ps := ["row", "first"]) fun _ _ _ _ _ _ us hl => match us, hl with | [_, _], _ => rfl
  have F_behind := fun_mk (st := s_behind) l_behind c_behind k_behind
  have b_behind := F_behind.binds (ps := ["here", "there"]) fun _ _ _ _ _ _ us hl => match us, hl with | [_, _], _ => rfl
  have F_meet := fun_mk (st := s_meet) l_meet c_meet k_meet
  have b_meet := F_meet.binds (ps := ["ones", "others"]) fun _ _ _ _ _ _ us hl => match us, hl with | [_, _], _ => rfl
  have F_parts := fun_mk (st := s_parts) l_parts c_parts k_parts
  have b_parts := F_parts.binds (ps := ["row"]) fun _ _ _ _ _ _ us hl => match us, hl with | [_], _ => rfl
  have F__law_whole := fun_mk (st := s__law_whole) l__law_whole c__law_whole k__law_whole
  have b__law_whole := F__law_whole.binds (ps := ["_law_found"]) fun _ _ _ _ _ _ us hl => match us, hl with | [_], _ => rfl
  have F__law_cell_at := fun_mk (st := s__law_cell_at) l__law_cell_at c__law_cell_at k__law_cell_at
  have b__law_cell_at := F__law_cell_at.binds (ps := ["_law_script", "_law_k"]) fun _ _ _ _ _ _ us hl => match us, hl with | [_, _], _ => rfl
  have F__law_trim := fun_mk (st := s__law_trim) l__law_trim c__law_trim k__law_trim
  have b__law_trim := F__law_trim.binds (ps := ["_law_row"]) fun _ _ _ _ _ _ us hl => match us, hl with | [_], _ => rfl
  have F__law_same := fun_mk (st := s__law_same) l__law_same c__law_same k__law_same
  have b__law_same := F__law_same.binds (ps := ["_law_found", "_law_due_here"]) fun _ _ _ _ _ _ us hl => match us, hl with | [_, _], _ => rfl
  have F__law_number := fun_mk (st := s__law_number) l__law_number c__law_number k__law_number
  have b__law_number := F__law_number.binds (ps := ["_law_cell"]) fun _ _ _ _ _ _ us hl => match us, hl with | [_], _ => rfl
  have F__law_drawn := fun_mk (st := s__law_drawn) l__law_drawn c__law_drawn k__law_drawn
  have b__law_drawn := F__law_drawn.binds (ps := ["_law_script", "_law_place", "_law_size", "_law_many"]) fun _ _ _ _ _ _ us hl => match us, hl with | [_, _, _, _], _ => rfl
  have F__law_written := fun_mk (st := s__law_written) l__law_written c__law_written k__law_written
  have b__law_written := F__law_written.binds (ps := ["_law_row"]) fun _ _ _ _ _ _ us hl => match us, hl with | [_], _ => rfl
  have F__law_figures := fun_mk (st := s__law_figures) l__law_figures c__law_figures k__law_figures
  have b__law_figures := F__law_figures.binds (ps := ["_law_word", "_law_most"]) fun _ _ _ _ _ _ us hl => match us, hl with | [_, _], _ => rfl
  have F__law_term := fun_mk (st := s__law_term) l__law_term c__law_term k__law_term
  have b__law_term := F__law_term.binds (ps := ["_law_word"]) fun _ _ _ _ _ _ us hl => match us, hl with | [_], _ => rfl
  have F__law_due := fun_mk (st := s__law_due) l__law_due c__law_due k__law_due
  have b__law_due := F__law_due.binds (ps := ["_law_line"]) fun _ _ _ _ _ _ us hl => match us, hl with | [_], _ => rfl
  have F__law_odd := fun_mk (st := s__law_odd) l__law_odd c__law_odd k__law_odd
  have b__law_odd := F__law_odd.binds (ps := ["_law_cell"]) fun _ _ _ _ _ _ us hl => match us, hl with | [_], _ => rfl
  have F__law_sign := fun_mk (st := s__law_sign) l__law_sign c__law_sign k__law_sign
  have b__law_sign := F__law_sign.binds (ps := ["_law_cell"]) fun _ _ _ _ _ _ us hl => match us, hl with | [_], _ => rfl
  have F__law_turned := fun_mk (st := s__law_turned) l__law_turned c__law_turned k__law_turned
  have b__law_turned := F__law_turned.binds (ps := ["_law_line", "_law_cell", "_law_spot"]) fun _ _ _ _ _ _ us hl => match us, hl with | [_, _, _], _ => rfl
  have F__law_refuse := fun_mk (st := s__law_refuse) l__law_refuse c__law_refuse k__law_refuse
  have b__law_refuse := F__law_refuse.binds (ps := ["_law_which"]) fun _ _ _ _ _ _ us hl => match us, hl with | [_], _ => rfl
  have F__law_first := fun_mk (st := s__law_first) l__law_first c__law_first k__law_first
  have b__law_first := F__law_first.binds (ps := ["_law_which"]) fun _ _ _ _ _ _ us hl => match us, hl with | [_], _ => rfl
  have F__law_last := fun_mk (st := s__law_last) l__law_last c__law_last k__law_last
  have b__law_last := F__law_last.binds (ps := ["_law_which"]) fun _ _ _ _ _ _ us hl => match us, hl with | [_], _ => rfl
  have F__law_refused := fun_mk (st := s__law_refused) l__law_refused c__law_refused k__law_refused
  have b__law_refused := F__law_refused.binds (ps := ["_law_line"]) fun _ _ _ _ _ _ us hl => match us, hl with | [_], _ => rfl
  have F_law := fun_mk (st := s_law) l_law c_law k_law
  have b_law := F_law.binds (ps := ["_law_script"]) fun _ _ _ _ _ _ us hl => match us, hl with | [_], _ => rfl
  let T : Txt K mg := {
    a_trimmed := _, d_trimmed := _, F_trimmed := F_trimmed, m_trimmed := PySem.W.mg_of X G a_trimmed, b_trimmed := b_trimmed,
    a_made := _, d_made := _, F_made := F_made, m_made := PySem.W.mg_of X G a_made, b_made := b_made,
    a_number_at := _, d_number_at := _, F_number_at := F_number_at, m_number_at := PySem.W.mg_of X G a_number_at, b_number_at := b_number_at,
    a_minus := _, d_minus := _, F_minus := F_minus, m_minus := PySem.W.mg_of X G a_minus, b_minus := b_minus,
    a_scaled := _, d_scaled := _, F_scaled := F_scaled, m_scaled := PySem.W.mg_of X G a_scaled, b_scaled := b_scaled,
    a_times := _, d_times := _, F_times := F_times, m_times := PySem.W.mg_of X G a_times, b_times := b_times,
    a_raised := _, d_raised := _, F_raised := F_raised, m_raised := PySem.W.mg_of X G a_raised, b_raised := b_raised,
    a_slope := _, d_slope := _, F_slope := F_slope, m_slope := PySem.W.mg_of X G a_slope, b_slope := b_slope,
    a_whole_of := _, d_whole_of := _, F_whole_of := F_whole_of, m_whole_of := PySem.W.mg_of X G a_whole_of, b_whole_of := b_whole_of,
    a_power_of := _, d_power_of := _, F_power_of := F_power_of, m_power_of := PySem.W.mg_of X G a_power_of, b_power_of := b_power_of,
    a_read_term := _, d_read_term := _, F_read_term := F_read_term, m_read_term := PySem.W.mg_of X G a_read_term, b_read_term := b_read_term,
    a_read := _, d_read := _, F_read := F_read, m_read := PySem.W.mg_of X G a_read, b_read := b_read,
    a_greatest := _, d_greatest := _, F_greatest := F_greatest, m_greatest := PySem.W.mg_of X G a_greatest, b_greatest := b_greatest,
    a_content := _, d_content := _, F_content := F_content, m_content := PySem.W.mg_of X G a_content, b_content := b_content,
    a_signed_content := _, d_signed_content := _, F_signed_content := F_signed_content, m_signed_content := PySem.W.mg_of X G a_signed_content, b_signed_content := b_signed_content,
    a_simple := _, d_simple := _, F_simple := F_simple, m_simple := PySem.W.mg_of X G a_simple, b_simple := b_simple,
    a_divided := _, d_divided := _, F_divided := F_divided, m_divided := PySem.W.mg_of X G a_divided, b_divided := b_divided,
    a_quotient := _, d_quotient := _, F_quotient := F_quotient, m_quotient := PySem.W.mg_of X G a_quotient, b_quotient := b_quotient,
    a_shared := _, d_shared := _, F_shared := F_shared, m_shared := PySem.W.mg_of X G a_shared, b_shared := b_shared,
    a_begun := _, d_begun := _, F_begun := F_begun, m_begun := PySem.W.mg_of X G a_begun, b_begun := b_begun,
    a_behind := _, d_behind := _, F_behind := F_behind, m_behind := PySem.W.mg_of X G a_behind, b_behind := b_behind,
    a_meet := _, d_meet := _, F_meet := F_meet, m_meet := PySem.W.mg_of X G a_meet, b_meet := b_meet,
    a_parts := _, d_parts := _, F_parts := F_parts, m_parts := PySem.W.mg_of X G a_parts, b_parts := b_parts,
    a__law_whole := _, d__law_whole := _, F__law_whole := F__law_whole, m__law_whole := PySem.W.mg_of X G a__law_whole, b__law_whole := b__law_whole,
    a__law_cell_at := _, d__law_cell_at := _, F__law_cell_at := F__law_cell_at, m__law_cell_at := PySem.W.mg_of X G a__law_cell_at, b__law_cell_at := b__law_cell_at,
    a__law_trim := _, d__law_trim := _, F__law_trim := F__law_trim, m__law_trim := PySem.W.mg_of X G a__law_trim, b__law_trim := b__law_trim,
    a__law_same := _, d__law_same := _, F__law_same := F__law_same, m__law_same := PySem.W.mg_of X G a__law_same, b__law_same := b__law_same,
    a__law_number := _, d__law_number := _, F__law_number := F__law_number, m__law_number := PySem.W.mg_of X G a__law_number, b__law_number := b__law_number,
    a__law_drawn := _, d__law_drawn := _, F__law_drawn := F__law_drawn, m__law_drawn := PySem.W.mg_of X G a__law_drawn, b__law_drawn := b__law_drawn,
    a__law_written := _, d__law_written := _, F__law_written := F__law_written, m__law_written := PySem.W.mg_of X G a__law_written, b__law_written := b__law_written,
    a__law_figures := _, d__law_figures := _, F__law_figures := F__law_figures, m__law_figures := PySem.W.mg_of X G a__law_figures, b__law_figures := b__law_figures,
    a__law_term := _, d__law_term := _, F__law_term := F__law_term, m__law_term := PySem.W.mg_of X G a__law_term, b__law_term := b__law_term,
    a__law_due := _, d__law_due := _, F__law_due := F__law_due, m__law_due := PySem.W.mg_of X G a__law_due, b__law_due := b__law_due,
    a__law_odd := _, d__law_odd := _, F__law_odd := F__law_odd, m__law_odd := PySem.W.mg_of X G a__law_odd, b__law_odd := b__law_odd,
    a__law_sign := _, d__law_sign := _, F__law_sign := F__law_sign, m__law_sign := PySem.W.mg_of X G a__law_sign, b__law_sign := b__law_sign,
    a__law_turned := _, d__law_turned := _, F__law_turned := F__law_turned, m__law_turned := PySem.W.mg_of X G a__law_turned, b__law_turned := b__law_turned,
    a__law_refuse := _, d__law_refuse := _, F__law_refuse := F__law_refuse, m__law_refuse := PySem.W.mg_of X G a__law_refuse, b__law_refuse := b__law_refuse,
    a__law_first := _, d__law_first := _, F__law_first := F__law_first, m__law_first := PySem.W.mg_of X G a__law_first, b__law_first := b__law_first,
    a__law_last := _, d__law_last := _, F__law_last := F__law_last, m__law_last := PySem.W.mg_of X G a__law_last, b__law_last := b__law_last,
    a__law_refused := _, d__law_refused := _, F__law_refused := F__law_refused, m__law_refused := PySem.W.mg_of X G a__law_refused, b__law_refused := b__law_refused,
    a_law := _, d_law := _, F_law := F_law, m_law := PySem.W.mg_of X G a_law, b_law := b_law,
    A_PolyError := A_PolyError, e_PolyError := ⟨PySem.W.mg_of X G g_PolyError, x_PolyError, k_PolyError, b_PolyError, t_PolyError, h_PolyError, ⟨ig_PolyError, ik_PolyError, b_PolyError, h_PolyError, ia_PolyError, in_PolyError, it_PolyError, im_PolyError⟩, kit_ve v_PolyError⟩,
    A_NoNumber := A_NoNumber, e_NoNumber := ⟨PySem.W.mg_of X G g_NoNumber, x_NoNumber, k_NoNumber, b_NoNumber, t_NoNumber, h_NoNumber, ⟨ig_NoNumber, ik_NoNumber, b_NoNumber, h_NoNumber, ia_NoNumber, in_NoNumber, it_NoNumber, im_NoNumber⟩, kit_ve v_NoNumber⟩,
    A_NoPower := A_NoPower, e_NoPower := ⟨PySem.W.mg_of X G g_NoPower, x_NoPower, k_NoPower, b_NoPower, t_NoPower, h_NoPower, ⟨ig_NoPower, ik_NoPower, b_NoPower, h_NoPower, ia_NoPower, in_NoPower, it_NoPower, im_NoPower⟩, kit_ve v_NoPower⟩,
    A_ByNought := A_ByNought, e_ByNought := ⟨PySem.W.mg_of X G g_ByNought, x_ByNought, k_ByNought, b_ByNought, t_ByNought, h_ByNought, ⟨ig_ByNought, ik_ByNought, b_ByNought, h_ByNought, ia_ByNought, in_ByNought, it_ByNought, im_ByNought⟩, kit_ve v_ByNought⟩,
    A_NotWhole := A_NotWhole, e_NotWhole := ⟨PySem.W.mg_of X G g_NotWhole, x_NotWhole, k_NotWhole, b_NotWhole, t_NotWhole, h_NotWhole, ⟨ig_NotWhole, ik_NotWhole, b_NotWhole, h_NotWhole, ia_NotWhole, in_NotWhole, it_NotWhole, im_NotWhole⟩, kit_ve v_NotWhole⟩,
    A_NoMeet := A_NoMeet, e_NoMeet := ⟨PySem.W.mg_of X G g_NoMeet, x_NoMeet, k_NoMeet, b_NoMeet, t_NoMeet, h_NoMeet, ⟨ig_NoMeet, ik_NoMeet, b_NoMeet, h_NoMeet, ia_NoMeet, in_NoMeet, it_NoMeet, im_NoMeet⟩, kit_ve v_NoMeet⟩,
    A_NoParts := A_NoParts, e_NoParts := ⟨PySem.W.mg_of X G g_NoParts, x_NoParts, k_NoParts, b_NoParts, t_NoParts, h_NoParts, ⟨ig_NoParts, ik_NoParts, b_NoParts, h_NoParts, ia_NoParts, in_NoParts, it_NoParts, im_NoParts⟩, kit_ve v_NoParts⟩,
    A_NotWritten := A_NotWritten, e_NotWritten := ⟨PySem.W.mg_of X G g_NotWritten, x_NotWritten, k_NotWritten, b_NotWritten, t_NotWritten, h_NotWritten, ⟨ig_NotWritten, ik_NotWritten, b_NotWritten, h_NotWritten, ia_NotWritten, in_NotWritten, it_NotWritten, im_NotWritten⟩, kit_ve v_NotWritten⟩,
    u_NoNumber_NoNumber := PySem.W.exm_ref b_NoNumber h_NoNumber t_NoNumber u_NoNumber_NoNumber,
    u_NoNumber_NoPower := PySem.W.exm_ref b_NoPower h_NoPower t_NoPower u_NoNumber_NoPower,
    u_NoNumber_ByNought := PySem.W.exm_ref b_ByNought h_ByNought t_ByNought u_NoNumber_ByNought,
    u_NoNumber_NotWhole := PySem.W.exm_ref b_NotWhole h_NotWhole t_NotWhole u_NoNumber_NotWhole,
    u_NoNumber_NoMeet := PySem.W.exm_ref b_NoMeet h_NoMeet t_NoMeet u_NoNumber_NoMeet,
    u_NoNumber_NoParts := PySem.W.exm_ref b_NoParts h_NoParts t_NoParts u_NoNumber_NoParts,
    u_NoNumber_NotWritten := PySem.W.exm_ref b_NotWritten h_NotWritten t_NotWritten u_NoNumber_NotWritten,
    u_NoPower_NoNumber := PySem.W.exm_ref b_NoNumber h_NoNumber t_NoNumber u_NoPower_NoNumber,
    u_NoPower_NoPower := PySem.W.exm_ref b_NoPower h_NoPower t_NoPower u_NoPower_NoPower,
    u_NoPower_ByNought := PySem.W.exm_ref b_ByNought h_ByNought t_ByNought u_NoPower_ByNought,
    u_NoPower_NotWhole := PySem.W.exm_ref b_NotWhole h_NotWhole t_NotWhole u_NoPower_NotWhole,
    u_NoPower_NoMeet := PySem.W.exm_ref b_NoMeet h_NoMeet t_NoMeet u_NoPower_NoMeet,
    u_NoPower_NoParts := PySem.W.exm_ref b_NoParts h_NoParts t_NoParts u_NoPower_NoParts,
    u_NoPower_NotWritten := PySem.W.exm_ref b_NotWritten h_NotWritten t_NotWritten u_NoPower_NotWritten,
    u_ByNought_NoNumber := PySem.W.exm_ref b_NoNumber h_NoNumber t_NoNumber u_ByNought_NoNumber,
    u_ByNought_NoPower := PySem.W.exm_ref b_NoPower h_NoPower t_NoPower u_ByNought_NoPower,
    u_ByNought_ByNought := PySem.W.exm_ref b_ByNought h_ByNought t_ByNought u_ByNought_ByNought,
    u_ByNought_NotWhole := PySem.W.exm_ref b_NotWhole h_NotWhole t_NotWhole u_ByNought_NotWhole,
    u_ByNought_NoMeet := PySem.W.exm_ref b_NoMeet h_NoMeet t_NoMeet u_ByNought_NoMeet,
    u_ByNought_NoParts := PySem.W.exm_ref b_NoParts h_NoParts t_NoParts u_ByNought_NoParts,
    u_ByNought_NotWritten := PySem.W.exm_ref b_NotWritten h_NotWritten t_NotWritten u_ByNought_NotWritten,
    u_NotWhole_NoNumber := PySem.W.exm_ref b_NoNumber h_NoNumber t_NoNumber u_NotWhole_NoNumber,
    u_NotWhole_NoPower := PySem.W.exm_ref b_NoPower h_NoPower t_NoPower u_NotWhole_NoPower,
    u_NotWhole_ByNought := PySem.W.exm_ref b_ByNought h_ByNought t_ByNought u_NotWhole_ByNought,
    u_NotWhole_NotWhole := PySem.W.exm_ref b_NotWhole h_NotWhole t_NotWhole u_NotWhole_NotWhole,
    u_NotWhole_NoMeet := PySem.W.exm_ref b_NoMeet h_NoMeet t_NoMeet u_NotWhole_NoMeet,
    u_NotWhole_NoParts := PySem.W.exm_ref b_NoParts h_NoParts t_NoParts u_NotWhole_NoParts,
    u_NotWhole_NotWritten := PySem.W.exm_ref b_NotWritten h_NotWritten t_NotWritten u_NotWhole_NotWritten,
    u_NoMeet_NoNumber := PySem.W.exm_ref b_NoNumber h_NoNumber t_NoNumber u_NoMeet_NoNumber,
    u_NoMeet_NoPower := PySem.W.exm_ref b_NoPower h_NoPower t_NoPower u_NoMeet_NoPower,
    u_NoMeet_ByNought := PySem.W.exm_ref b_ByNought h_ByNought t_ByNought u_NoMeet_ByNought,
    u_NoMeet_NotWhole := PySem.W.exm_ref b_NotWhole h_NotWhole t_NotWhole u_NoMeet_NotWhole,
    u_NoMeet_NoMeet := PySem.W.exm_ref b_NoMeet h_NoMeet t_NoMeet u_NoMeet_NoMeet,
    u_NoMeet_NoParts := PySem.W.exm_ref b_NoParts h_NoParts t_NoParts u_NoMeet_NoParts,
    u_NoMeet_NotWritten := PySem.W.exm_ref b_NotWritten h_NotWritten t_NotWritten u_NoMeet_NotWritten,
    u_NoParts_NoNumber := PySem.W.exm_ref b_NoNumber h_NoNumber t_NoNumber u_NoParts_NoNumber,
    u_NoParts_NoPower := PySem.W.exm_ref b_NoPower h_NoPower t_NoPower u_NoParts_NoPower,
    u_NoParts_ByNought := PySem.W.exm_ref b_ByNought h_ByNought t_ByNought u_NoParts_ByNought,
    u_NoParts_NotWhole := PySem.W.exm_ref b_NotWhole h_NotWhole t_NotWhole u_NoParts_NotWhole,
    u_NoParts_NoMeet := PySem.W.exm_ref b_NoMeet h_NoMeet t_NoMeet u_NoParts_NoMeet,
    u_NoParts_NoParts := PySem.W.exm_ref b_NoParts h_NoParts t_NoParts u_NoParts_NoParts,
    u_NoParts_NotWritten := PySem.W.exm_ref b_NotWritten h_NotWritten t_NotWritten u_NoParts_NotWritten,
    u_NotWritten_NoNumber := PySem.W.exm_ref b_NoNumber h_NoNumber t_NoNumber u_NotWritten_NoNumber,
    u_NotWritten_NoPower := PySem.W.exm_ref b_NoPower h_NoPower t_NoPower u_NotWritten_NoPower,
    u_NotWritten_ByNought := PySem.W.exm_ref b_ByNought h_ByNought t_ByNought u_NotWritten_ByNought,
    u_NotWritten_NotWhole := PySem.W.exm_ref b_NotWhole h_NotWhole t_NotWhole u_NotWritten_NotWhole,
    u_NotWritten_NoMeet := PySem.W.exm_ref b_NoMeet h_NoMeet t_NoMeet u_NotWritten_NoMeet,
    u_NotWritten_NoParts := PySem.W.exm_ref b_NoParts h_NoParts t_NoParts u_NotWritten_NoParts,
    u_NotWritten_NotWritten := PySem.W.exm_ref b_NotWritten h_NotWritten t_NotWritten u_NotWritten_NotWritten,
    u_NotWritten_PolyError := PySem.W.exm_ref b_PolyError h_PolyError t_PolyError u_NotWritten_PolyError,
    g_FIGURES := ⟨_, PySem.W.mg_of X G g_FIGURES⟩,
    z_ValueError := PySem.W.mg_none_of X G z_ValueError, z_abs := PySem.W.mg_none_of X G z_abs, z_bool := PySem.W.mg_none_of X G z_bool, z_int := PySem.W.mg_none_of X G z_int, z_isinstance := PySem.W.mg_none_of X G z_isinstance, z_len := PySem.W.mg_none_of X G z_len, z_list := PySem.W.mg_none_of X G z_list, z_max := PySem.W.mg_none_of X G z_max, z_range := PySem.W.mg_none_of X G z_range, z_str := PySem.W.mg_none_of X G z_str }
  exact ⟨_, fun s v => .of_eq rfl, fun base _ _ => ok_law T hb0⟩
end Pa
open PySem PySem.W PyProof.Rows
set_option maxHeartbeats 0 in
theorem PySem.Challenge.cw_polyarith_k11_read_holds : PySem.Challenge.rw_polyarith_k11_read.Holds := by
  w_on; o_law; k_head; (case hw => w_witness2)
  k_fill
  refine L2.walk_of (l := PySem.Challenge.rw_polyarith_k11_read) (n := 63) (k := 10) (x := "_law_script") (CX := fun _ => L2.CX0) (sp := fun w => Pa.sp_law _) rfl (by decide) rfl ⟨rfl, by decide, by decide⟩ (fun w h Y => PySem.W.kIn_of Y) ?F (fun _ _ a ns hl _ hS => ⟨a, ns, rfl, hS, hl, fun _ => rfl⟩) (fun _ _ _ _ _ h => h)
  case F =>
    intro w mg fa h KX G hmg
    refine' Pa.all_mk KX G hmg ?a_trimmed ?l_trimmed ?c_trimmed ?k_trimmed ?a_made ?l_made ?c_made ?k_made ?a_number_at ?l_number_at ?c_number_at ?k_number_at ?a_minus ?l_minus ?c_minus ?k_minus ?a_scaled ?l_scaled ?c_scaled ?k_scaled ?a_times ?l_times ?c_times ?k_times ?a_raised ?l_raised ?c_raised ?k_raised ?a_slope ?l_slope ?c_slope ?k_slope ?a_whole_of ?l_whole_of ?c_whole_of ?k_whole_of ?a_power_of ?l_power_of ?c_power_of ?k_power_of ?a_read_term ?l_read_term ?c_read_term ?k_read_term ?a_read ?l_read ?c_read ?k_read ?a_greatest ?l_greatest ?c_greatest ?k_greatest ?a_content ?l_content ?c_content ?k_content ?a_signed_content ?l_signed_content ?c_signed_content ?k_signed_content ?a_simple ?l_simple ?c_simple ?k_simple ?a_divided ?l_divided ?c_divided ?k_divided ?a_quotient ?l_quotient ?c_quotient ?k_quotient ?a_shared ?l_shared ?c_shared ?k_shared ?a_begun ?l_begun ?c_begun ?k_begun ?a_behind ?l_behind ?c_behind ?k_behind ?a_meet ?l_meet ?c_meet ?k_meet ?a_parts ?l_parts ?c_parts ?k_parts ?a__law_whole ?l__law_whole ?c__law_whole ?k__law_whole ?a__law_cell_at ?l__law_cell_at ?c__law_cell_at ?k__law_cell_at ?a__law_trim ?l__law_trim ?c__law_trim ?k__law_trim ?a__law_same ?l__law_same ?c__law_same ?k__law_same ?a__law_number ?l__law_number ?c__law_number ?k__law_number ?a__law_drawn ?l__law_drawn ?c__law_drawn ?k__law_drawn ?a__law_written ?l__law_written ?c__law_written ?k__law_written ?a__law_figures ?l__law_figures ?c__law_figures ?k__law_figures ?a__law_term ?l__law_term ?c__law_term ?k__law_term ?a__law_due ?l__law_due ?c__law_due ?k__law_due ?a__law_odd ?l__law_odd ?c__law_odd ?k__law_odd ?a__law_sign ?l__law_sign ?c__law_sign ?k__law_sign ?a__law_turned ?l__law_turned ?c__law_turned ?k__law_turned ?a__law_refuse ?l__law_refuse ?c__law_refuse ?k__law_refuse ?a__law_first ?l__law_first ?c__law_first ?k__law_first ?a__law_last ?l__law_last ?c__law_last ?k__law_last ?a__law_refused ?l__law_refused ?c__law_refused ?k__law_refused ?a_law ?l_law ?c_law ?k_law ?g_PolyError ?x_PolyError ?k_PolyError ?b_PolyError ?t_PolyError ?h_PolyError ?ig_PolyError ?ik_PolyError ?ia_PolyError ?in_PolyError ?it_PolyError ?im_PolyError ?v_PolyError ?g_NoNumber ?x_NoNumber ?k_NoNumber ?b_NoNumber ?t_NoNumber ?h_NoNumber ?ig_NoNumber ?ik_NoNumber ?ia_NoNumber ?in_NoNumber ?it_NoNumber ?im_NoNumber ?v_NoNumber ?g_NoPower ?x_NoPower ?k_NoPower ?b_NoPower ?t_NoPower ?h_NoPower ?ig_NoPower ?ik_NoPower ?ia_NoPower ?in_NoPower ?it_NoPower ?im_NoPower ?v_NoPower ?g_ByNought ?x_ByNought ?k_ByNought ?b_ByNought ?t_ByNought ?h_ByNought ?ig_ByNought ?ik_ByNought ?ia_ByNought ?in_ByNought ?it_ByNought ?im_ByNought ?v_ByNought ?g_NotWhole ?x_NotWhole ?k_NotWhole ?b_NotWhole ?t_NotWhole ?h_NotWhole ?ig_NotWhole ?ik_NotWhole ?ia_NotWhole ?in_NotWhole ?it_NotWhole ?im_NotWhole ?v_NotWhole ?g_NoMeet ?x_NoMeet ?k_NoMeet ?b_NoMeet ?t_NoMeet ?h_NoMeet ?ig_NoMeet ?ik_NoMeet ?ia_NoMeet ?in_NoMeet ?it_NoMeet ?im_NoMeet ?v_NoMeet ?g_NoParts ?x_NoParts ?k_NoParts ?b_NoParts ?t_NoParts ?h_NoParts ?ig_NoParts ?ik_NoParts ?ia_NoParts ?in_NoParts ?it_NoParts ?im_NoParts ?v_NoParts ?g_NotWritten ?x_NotWritten ?k_NotWritten ?b_NotWritten ?t_NotWritten ?h_NotWritten ?ig_NotWritten ?ik_NotWritten ?ia_NotWritten ?in_NotWritten ?it_NotWritten ?im_NotWritten ?v_NotWritten ?u_NoNumber_NoNumber ?u_NoNumber_NoPower ?u_NoNumber_ByNought ?u_NoNumber_NotWhole ?u_NoNumber_NoMeet ?u_NoNumber_NoParts ?u_NoNumber_NotWritten ?u_NoPower_NoNumber ?u_NoPower_NoPower ?u_NoPower_ByNought ?u_NoPower_NotWhole ?u_NoPower_NoMeet ?u_NoPower_NoParts ?u_NoPower_NotWritten ?u_ByNought_NoNumber ?u_ByNought_NoPower ?u_ByNought_ByNought ?u_ByNought_NotWhole ?u_ByNought_NoMeet ?u_ByNought_NoParts ?u_ByNought_NotWritten ?u_NotWhole_NoNumber ?u_NotWhole_NoPower ?u_NotWhole_ByNought ?u_NotWhole_NotWhole ?u_NotWhole_NoMeet ?u_NotWhole_NoParts ?u_NotWhole_NotWritten ?u_NoMeet_NoNumber ?u_NoMeet_NoPower ?u_NoMeet_ByNought ?u_NoMeet_NotWhole ?u_NoMeet_NoMeet ?u_NoMeet_NoParts ?u_NoMeet_NotWritten ?u_NoParts_NoNumber ?u_NoParts_NoPower ?u_NoParts_ByNought ?u_NoParts_NotWhole ?u_NoParts_NoMeet ?u_NoParts_NoParts ?u_NoParts_NotWritten ?u_NotWritten_NoNumber ?u_NotWritten_NoPower ?u_NotWritten_ByNought ?u_NotWritten_NotWhole ?u_NotWritten_NoMeet ?u_NotWritten_NoParts ?u_NotWritten_NotWritten ?u_NotWritten_PolyError ?g_FIGURES ?z_ValueError ?z_abs ?z_bool ?z_int ?z_isinstance ?z_len ?z_list ?z_max ?z_range ?z_str ?hb0
    (case a_trimmed => k_is)
    (case l_trimmed => k_is)
    (case c_trimmed => k_is)
    (case k_trimmed => k_is)
    (case a_made => k_is)
    (case l_made => k_is)
    (case c_made => k_is)
    (case k_made => k_is)
    (case a_number_at => k_is)
    (case l_number_at => k_is)
    (case c_number_at => k_is)
    (case k_number_at => k_is)
    (case a_minus => k_is)
    (case l_minus => k_is)
    (case c_minus => k_is)
    (case k_minus => k_is)
    (case a_scaled => k_is)
    (case l_scaled => k_is)
    (case c_scaled => k_is)
    (case k_scaled => k_is)
    (case a_times => k_is)
    (case l_times => k_is)
    (case c_times => k_is)
    (case k_times => k_is)
    (case a_raised => k_is)
    (case l_raised => k_is)
    (case c_raised => k_is)
    (case k_raised => k_is)
    (case a_slope => k_is)
    (case l_slope => k_is)
    (case c_slope => k_is)
    (case k_slope => k_is)
    (case a_whole_of => k_is)
    (case l_whole_of => k_is)
    (case c_whole_of => k_is)
    (case k_whole_of => k_is)
    (case a_power_of => k_is)
    (case l_power_of => k_is)
    (case c_power_of => k_is)
    (case k_power_of => k_is)
    (case a_read_term => k_is)
    (case l_read_term => k_is)
    (case c_read_term => k_is)
    (case k_read_term => k_is)
    (case a_read => k_is)
    (case l_read => k_is)
    (case c_read => k_is)
    (case k_read => k_is)
    (case a_greatest => k_is)
    (case l_greatest => k_is)
    (case c_greatest => k_is)
    (case k_greatest => k_is)
    (case a_content => k_is)
    (case l_content => k_is)
    (case c_content => k_is)
    (case k_content => k_is)
    (case a_signed_content => k_is)
    (case l_signed_content => k_is)
    (case c_signed_content => k_is)
    (case k_signed_content => k_is)
    (case a_simple => k_is)
    (case l_simple => k_is)
    (case c_simple => k_is)
    (case k_simple => k_is)
    (case a_divided => k_is)
    (case l_divided => k_is)
    (case c_divided => k_is)
    (case k_divided => k_is)
    (case a_quotient => k_is)
    (case l_quotient => k_is)
    (case c_quotient => k_is)
    (case k_quotient => k_is)
    (case a_shared => k_is)
    (case l_shared => k_is)
    (case c_shared => k_is)
    (case k_shared => k_is)
    (case a_begun => k_is)
    (case l_begun => k_is)
    (case c_begun => k_is)
    (case k_begun => k_is)
    (case a_behind => k_is)
    (case l_behind => k_is)
    (case c_behind => k_is)
    (case k_behind => k_is)
    (case a_meet => k_is)
    (case l_meet => k_is)
    (case c_meet => k_is)
    (case k_meet => k_is)
    (case a_parts => k_is)
    (case l_parts => k_is)
    (case c_parts => k_is)
    (case k_parts => k_is)
    (case a__law_whole => k_is)
    (case l__law_whole => k_is)
    (case c__law_whole => k_is)
    (case k__law_whole => k_is)
    (case a__law_cell_at => k_is)
    (case l__law_cell_at => k_is)
    (case c__law_cell_at => k_is)
    (case k__law_cell_at => k_is)
    (case a__law_trim => k_is)
    (case l__law_trim => k_is)
    (case c__law_trim => k_is)
    (case k__law_trim => k_is)
    (case a__law_same => k_is)
    (case l__law_same => k_is)
    (case c__law_same => k_is)
    (case k__law_same => k_is)
    (case a__law_number => k_is)
    (case l__law_number => k_is)
    (case c__law_number => k_is)
    (case k__law_number => k_is)
    (case a__law_drawn => k_is)
    (case l__law_drawn => k_is)
    (case c__law_drawn => k_is)
    (case k__law_drawn => k_is)
    (case a__law_written => k_is)
    (case l__law_written => k_is)
    (case c__law_written => k_is)
    (case k__law_written => k_is)
    (case a__law_figures => k_is)
    (case l__law_figures => k_is)
    (case c__law_figures => k_is)
    (case k__law_figures => k_is)
    (case a__law_term => k_is)
    (case l__law_term => k_is)
    (case c__law_term => k_is)
    (case k__law_term => k_is)
    (case a__law_due => k_is)
    (case l__law_due => k_is)
    (case c__law_due => k_is)
    (case k__law_due => k_is)
    (case a__law_odd => k_is)
    (case l__law_odd => k_is)
    (case c__law_odd => k_is)
    (case k__law_odd => k_is)
    (case a__law_sign => k_is)
    (case l__law_sign => k_is)
    (case c__law_sign => k_is)
    (case k__law_sign => k_is)
    (case a__law_turned => k_is)
    (case l__law_turned => k_is)
    (case c__law_turned => k_is)
    (case k__law_turned => k_is)
    (case a__law_refuse => k_is)
    (case l__law_refuse => k_is)
    (case c__law_refuse => k_is)
    (case k__law_refuse => k_is)
    (case a__law_first => k_is)
    (case l__law_first => k_is)
    (case c__law_first => k_is)
    (case k__law_first => k_is)
    (case a__law_last => k_is)
    (case l__law_last => k_is)
    (case c__law_last => k_is)
    (case k__law_last => k_is)
    (case a__law_refused => k_is)
    (case l__law_refused => k_is)
    (case c__law_refused => k_is)
    (case k__law_refused => k_is)
    (case a_law => k_is)
    (case l_law => k_is)
    (case c_law => k_is)
    (case k_law => k_is)
    (case g_PolyError => k_is)
    (case x_PolyError => k_exc)
    (case k_PolyError => k_is)
    (case b_PolyError => k_is)
    (case t_PolyError => k_is)
    (case h_PolyError => k_is)
    (case ig_PolyError => k_is)
    (case ik_PolyError => k_is)
    (case ia_PolyError => k_is)
    (case in_PolyError => k_is)
    (case it_PolyError => k_is)
    (case im_PolyError => k_is)
    (case v_PolyError => k_is)
    (case g_NoNumber => k_is)
    (case x_NoNumber => k_exc)
    (case k_NoNumber => k_is)
    (case b_NoNumber => k_is)
    (case t_NoNumber => k_is)
    (case h_NoNumber => k_is)
    (case ig_NoNumber => k_is)
    (case ik_NoNumber => k_is)
    (case ia_NoNumber => k_is)
    (case in_NoNumber => k_is)
    (case it_NoNumber => k_is)
    (case im_NoNumber => k_is)
    (case v_NoNumber => k_is)
    (case g_NoPower => k_is)
    (case x_NoPower => k_exc)
    (case k_NoPower => k_is)
    (case b_NoPower => k_is)
    (case t_NoPower => k_is)
    (case h_NoPower => k_is)
    (case ig_NoPower => k_is)
    (case ik_NoPower => k_is)
    (case ia_NoPower => k_is)
    (case in_NoPower => k_is)
    (case it_NoPower => k_is)
    (case im_NoPower => k_is)
    (case v_NoPower => k_is)
    (case g_ByNought => k_is)
    (case x_ByNought => k_exc)
    (case k_ByNought => k_is)
    (case b_ByNought => k_is)
    (case t_ByNought => k_is)
    (case h_ByNought => k_is)
    (case ig_ByNought => k_is)
    (case ik_ByNought => k_is)
    (case ia_ByNought => k_is)
    (case in_ByNought => k_is)
    (case it_ByNought => k_is)
    (case im_ByNought => k_is)
    (case v_ByNought => k_is)
    (case g_NotWhole => k_is)
    (case x_NotWhole => k_exc)
    (case k_NotWhole => k_is)
    (case b_NotWhole => k_is)
    (case t_NotWhole => k_is)
    (case h_NotWhole => k_is)
    (case ig_NotWhole => k_is)
    (case ik_NotWhole => k_is)
    (case ia_NotWhole => k_is)
    (case in_NotWhole => k_is)
    (case it_NotWhole => k_is)
    (case im_NotWhole => k_is)
    (case v_NotWhole => k_is)
    (case g_NoMeet => k_is)
    (case x_NoMeet => k_exc)
    (case k_NoMeet => k_is)
    (case b_NoMeet => k_is)
    (case t_NoMeet => k_is)
    (case h_NoMeet => k_is)
    (case ig_NoMeet => k_is)
    (case ik_NoMeet => k_is)
    (case ia_NoMeet => k_is)
    (case in_NoMeet => k_is)
    (case it_NoMeet => k_is)
    (case im_NoMeet => k_is)
    (case v_NoMeet => k_is)
    (case g_NoParts => k_is)
    (case x_NoParts => k_exc)
    (case k_NoParts => k_is)
    (case b_NoParts => k_is)
    (case t_NoParts => k_is)
    (case h_NoParts => k_is)
    (case ig_NoParts => k_is)
    (case ik_NoParts => k_is)
    (case ia_NoParts => k_is)
    (case in_NoParts => k_is)
    (case it_NoParts => k_is)
    (case im_NoParts => k_is)
    (case v_NoParts => k_is)
    (case g_NotWritten => k_is)
    (case x_NotWritten => k_exc)
    (case k_NotWritten => k_is)
    (case b_NotWritten => k_is)
    (case t_NotWritten => k_is)
    (case h_NotWritten => k_is)
    (case ig_NotWritten => k_is)
    (case ik_NotWritten => k_is)
    (case ia_NotWritten => k_is)
    (case in_NotWritten => k_is)
    (case it_NotWritten => k_is)
    (case im_NotWritten => k_is)
    (case v_NotWritten => k_is)
    (case u_NoNumber_NoNumber => first | rfl | k_is)
    (case u_NoNumber_NoPower => first | rfl | k_is)
    (case u_NoNumber_ByNought => first | rfl | k_is)
    (case u_NoNumber_NotWhole => first | rfl | k_is)
    (case u_NoNumber_NoMeet => first | rfl | k_is)
    (case u_NoNumber_NoParts => first | rfl | k_is)
    (case u_NoNumber_NotWritten => first | rfl | k_is)
    (case u_NoPower_NoNumber => first | rfl | k_is)
    (case u_NoPower_NoPower => first | rfl | k_is)
    (case u_NoPower_ByNought => first | rfl | k_is)
    (case u_NoPower_NotWhole => first | rfl | k_is)
    (case u_NoPower_NoMeet => first | rfl | k_is)
    (case u_NoPower_NoParts => first | rfl | k_is)
    (case u_NoPower_NotWritten => first | rfl | k_is)
    (case u_ByNought_NoNumber => first | rfl | k_is)
    (case u_ByNought_NoPower => first | rfl | k_is)
    (case u_ByNought_ByNought => first | rfl | k_is)
    (case u_ByNought_NotWhole => first | rfl | k_is)
    (case u_ByNought_NoMeet => first | rfl | k_is)
    (case u_ByNought_NoParts => first | rfl | k_is)
    (case u_ByNought_NotWritten => first | rfl | k_is)
    (case u_NotWhole_NoNumber => first | rfl | k_is)
    (case u_NotWhole_NoPower => first | rfl | k_is)
    (case u_NotWhole_ByNought => first | rfl | k_is)
    (case u_NotWhole_NotWhole => first | rfl | k_is)
    (case u_NotWhole_NoMeet => first | rfl | k_is)
    (case u_NotWhole_NoParts => first | rfl | k_is)
    (case u_NotWhole_NotWritten => first | rfl | k_is)
    (case u_NoMeet_NoNumber => first | rfl | k_is)
    (case u_NoMeet_NoPower => first | rfl | k_is)
    (case u_NoMeet_ByNought => first | rfl | k_is)
    (case u_NoMeet_NotWhole => first | rfl | k_is)
    (case u_NoMeet_NoMeet => first | rfl | k_is)
    (case u_NoMeet_NoParts => first | rfl | k_is)
    (case u_NoMeet_NotWritten => first | rfl | k_is)
    (case u_NoParts_NoNumber => first | rfl | k_is)
    (case u_NoParts_NoPower => first | rfl | k_is)
    (case u_NoParts_ByNought => first | rfl | k_is)
    (case u_NoParts_NotWhole => first | rfl | k_is)
    (case u_NoParts_NoMeet => first | rfl | k_is)
    (case u_NoParts_NoParts => first | rfl | k_is)
    (case u_NoParts_NotWritten => first | rfl | k_is)
    (case u_NotWritten_NoNumber => first | rfl | k_is)
    (case u_NotWritten_NoPower => first | rfl | k_is)
    (case u_NotWritten_ByNought => first | rfl | k_is)
    (case u_NotWritten_NotWhole => first | rfl | k_is)
    (case u_NotWritten_NoMeet => first | rfl | k_is)
    (case u_NotWritten_NoParts => first | rfl | k_is)
    (case u_NotWritten_NotWritten => first | rfl | k_is)
    (case u_NotWritten_PolyError => first | rfl | k_is)
    (case g_FIGURES => k_is)
    (case z_ValueError => k_is)
    (case z_abs => k_is)
    (case z_bool => k_is)
    (case z_int => k_is)
    (case z_isinstance => k_is)
    (case z_len => k_is)
    (case z_list => k_is)
    (case z_max => k_is)
    (case z_range => k_is)
    (case z_str => k_is)
    (case hb0 => k_is)
