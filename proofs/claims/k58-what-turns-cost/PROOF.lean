import PyProof.Rows.All
import Wide.All
import OpenK.AllK
import Wide.FinOn
import KE.KStateDown
import Lean
import HandS.Head0
import HandS.Head1
import HandS.Head2
import HandS.HeadEnd
import HandS.HeadHook1
import HandS.HeadHook2
import HandS.ForMost
import HandS.More
import HandS.Evl
import HandS.Steps
import HandS.WordsExc
import HandS.Defaults
import HandS.IsInst
import HandS.Walk
import HandS.Codes
import HandS.Style
import HandS.Flow
import HandS.Wide
import HandS.Conv
import HandS.Zip
import HandS.TupAny
import HandS.SortOrd
import KE.GoesMore
import KE.GoesEnum
import KE.SortData
import HandS.SetFor
import HandS.SetTxt0
import HandS.SetTxtIn
import HandS.Strs
import PyProof.CollectStr
import HandS.DictTup
import KE.GoesZip
import HandS.DictEq
import KE.KDictPairs
import HandS.DictComp
import PyProof.StrLawsAffix
import HandS.SetBool
import PyProof.StrBlock2
import KE.KUnpackStar
import HandS.RaiseMore
import KE.DataFind
import PySem.Challenge.RW_liketurns_k58_what_turns_cost
set_option Elab.async false
set_option linter.all false
set_option maxRecDepth 100000
set_option maxHeartbeats 4000000
namespace Lt
open PySem PySem.Spec PyProof.Rows L2 Evl
open SX (S)
abbrev Tx (l : List Nat) : V := .str (S l)
theorem tx_inj {a b : List Nat} (h : Tx a = Tx b) : a = b := SX.S_inj (V.str.inj h)
theorem tx_dec (a b : List Nat) : decide (Tx a = Tx b) = decide (a = b) := by
  by_cases h : a = b
  · subst h; simp
  · rw [decide_eq_false h, decide_eq_false fun q => h (tx_inj q)]
theorem S_cps (a : List Nat) : (S a).cps.toList = a := by simp [S]
theorem S_size (a : List Nat) : (S a).cps.size = a.length := by simp [S]
section
variable {X : Cx}
/-- a written text as its signs -/
theorem pe_strL {x : Str} {l : List Nat} {j pos} (h : x = S l) : PE X (.Constant (.str x) j pos) (tC (Tx l)) := by
  subst h
  exact pe_str
def Itw (n : Nat) (R : Nat → List V → Prop) : It :=
  ⟨fun i _ => i < n, fun i H v H' => ∃ T xs, v = .ref T ∧ H T = none ∧ H' = upd H T (.tup xs) ∧ R i xs, fun i _ => i = n⟩
theorem turn_walksT {P : Program} {w : World} {K : PySem.W.Frag} {elts : List Expr} {kk : Nat} {tpos : Pos} {I : Addr} {fp wr : List Addr} {n : Nat} {Pt : Nat → Array Value → Prop} {St : Nat → Heap → Prop} {Mid : Nat → Addr → Heap → Prop} {R : Nat → List V → Prop}
    (W : ∀ A : Around, A.handled = none → WalksT P w A I fp wr n Pt St Mid) (mem : I ∈ fp) (obj : ∀ i h, St i h → ∀ b ∈ fp, ∃ o, h.get? b = some o ∧ ∀ v, o.data ≠ .cell v)
    (rel : ∀ i vals, Pt i vals → vals.size ≤ sizeLine ∧ ∃ xs, Vals xs vals.toList ∧ R i xs)
    (self : ∀ (A : Around) (i : Nat) (s : Shared) (Q : Value → Shared → Prop) (E : Value → Shared → Prop), St i s.heap → Q (.ref I) s → wpAny (model P w) A (pyIter (.ref I)) Q E s) : Turn P w K (.Tuple elts kk tpos) (Itw n R) fp I St where
  mem := mem
  obj := obj
  keep := fun i h h' st k => (W callerA rfl).frame i h h' st k
  item := by
    intro X hP hw hK hc i pins s σ H E I0 hf st hg
    subst hP hw hK
    have D := W X.A (I0.ok.hd hc)
    refine D.item i s _ E hg st fun T vals h' tk hp hsz hT hmid hk => ⟨_, rfl, D.go elts kk tpos i T _ _ _ hmid fun h'' st' hk' => ?_⟩
    obtain ⟨hz, xs, hv, hR⟩ := rel i vals hp
    have hTn : T ∉ wr := D.apart i T h' hmid
    have hlen : xs.length ≤ sizeLine := by
      rw [hv.length, Array.length_toList]
      exact hz
    have new : ObjOk X.prog X.w (upd H T (.tup xs)) h'' T (.tup xs) := by
      obtain ⟨o, ho, hr⟩ := hT
      exact ⟨hlen, vals.toList, hv, o, hk' T o hTn ho, by simpa using hr⟩
    have I1 : Inv X pins σ (upd H T (.tup xs)) { s with heap := h'', toks := tk } :=
      I0.turnedNew (ch := wr) (fun b o hb e => hk' b o hb (hk b o hb e)) (fun b hb => hf b (D.sub b hb)) hsz new
    refine ⟨.ref T, _, I1, rfl, ⟨T, xs, rfl, I0.hok.fresh hsz, rfl, hR⟩, st', fun b hb => ?_⟩
    obtain ⟨o, ho, _⟩ := obj i s.heap st b hb
    rw [upd_ne (Nat.ne_of_lt (Nat.lt_of_lt_of_le (Heap.lt_size ho) hsz))]
    exact (hf b hb).1
  done := by
    intro X hP hw hK hc i pins s σ H E I0 hf st hg
    subst hP hw hK
    have D := W X.A (I0.ok.hd hc)
    have hg' : i = n := hg
    subst hg'
    refine D.done s _ E st fun h' tk hk => ⟨rfl, ?_⟩
    have nf : ∀ b u, H b = some u → b ∉ wr := fun b u e z => by
      have q := (hf b (D.sub b z)).1
      rw [q] at e; cases e
    refine I0.step (g' := s.gens) (d' := s.drawn) (ch := wr) (fun b hb => ?_) (fun b o _ _ hc e _ => hk b o hc e) (fun b o _ _ hc e _ => ⟨o.slots, hk b o hc e⟩) (fun _ _ _ _ n => n)
      (fun b o hc e => ⟨o, hk b o hc e⟩) (fun _ _ e => e) (fun _ _ _ e => e) (fun b ps e => ⟨#[], by rw [e]; simp⟩) (fun m hm => ?_) (fun b u e => ?_) I0.bare
    · obtain ⟨f0, f1, f2, f3, f4, f5⟩ := hf b (D.sub b hb)
      exact ⟨f3, f1, f4, f5⟩
    · obtain ⟨o, es, ep, ho, r⟩ := hm
      refine ⟨o, es, ep, hk _ o (fun z => (hf _ (D.sub _ z)).2.1 rfl) ho, r⟩
    · refine (I0.hok b u e).stay (fun c v hc q => hk c v ?_ q) (fun _ q => q) fun _ _ q => q
      rcases hc with z | z
      · rw [z]; exact nf b u e
      · exact nf c _ z
  self := self
abbrev Itex (l : List Nat) : It := Itw l.length fun i xs => ∃ c, l[i]? = some c ∧ xs = [.int (i : Nat), Tx [c]]
abbrev Itzx (l m : List Nat) : It := Itw (min l.length m.length) fun i xs => ∃ c d, l[i]? = some c ∧ m[i]? = some d ∧ xs = [Tx [c], Tx [d]]
theorem itw_congr {n m : Nat} {R R' : Nat → List V → Prop} (h : n = m) (hr : ∀ i xs, R i xs ↔ R' i xs) : Itw n R = Itw m R' := by
  subst h
  have : R = R' := by funext i xs; exact propext (hr i xs)
  rw [this]
theorem itex_S (l : List Nat) : (Itw (S l).cps.size fun i xs => ∃ c, (S l).cps[i]? = some c ∧ xs = [.int (i : Nat), .str ⟨#[c]⟩]) = Itex l :=
  itw_congr (S_size l) (by intro i xs; simp [S])
def iEnumX (ta : TA) : TI := fun σ H R => ta σ H fun vs H1 => ∃ l, vs = [Tx l] ∧ R (Itex l) H1
theorem pi_enumX {e : Expr} {ta : TA} {p pos tpos : Pos} {elts : List Expr} {kk : Nat} (hg : Gl X "enumerate") (hm : X.mg "enumerate" = none) (ha : PA X [e] ta) (hs : starEach [e] X.env = [(false, eval e X.env)] := by rfl) :
    PI X (.Tuple elts kk tpos) (.Call (.Name "enumerate" p) [e] [] pos) (iEnumX ta) := by
  refine ⟨fun pins s σ H R I h => ?_⟩
  refine Call_ (ld_blt I hg hm boot_enumerate (PyProof.Rows.callWith_type1 (thn (ha.run pos pins s σ H _ I h) fun us s1 ⟨vs, H1, I1, r1, q1⟩ => ?_) hs rfl))
  obtain ⟨l, ex, q0⟩ := q1
  subst ex
  have q : R (Itw (S l).cps.size fun i xs => ∃ c, (S l).cps[i]? = some c ∧ xs = [.int (i : Nat), .str ⟨#[c]⟩]) H1 := by
    rw [itex_S]; exact q0
  cases r1 with
  | cons r rr =>
    cases rr
    obtain ⟨t, rfl⟩ := r
    refine call_enumerate_str fun h' he hit hsz hk => wpAny_pyIter_enum he ?_
    have I2 : Inv X pins σ H1 { s1 with heap := h' } := I1.kept (t' := s1.toks) hk
    have hne : s1.heap.objs.size + 1 ≠ s1.heap.objs.size := Nat.succ_ne_self _
    refine ⟨s1.heap.objs.size + 1, [s1.heap.objs.size + 1, s1.heap.objs.size], _, _, H1, rfl, I2,
      turn_walksT (wr := [s1.heap.objs.size + 1, s1.heap.objs.size]) (n := (S l).cps.size)
        (fun A hA => WalksT.enumerateD (Draws.text (A := A.in1) hA s1.heap.objs.size (S l) t) (s1.heap.objs.size + 1) hne (by simp) (by simp)) (by simp)
        (fun i h st b hb => ?_) (fun i vals hp => ?_) (fun A i s Q E st hq => ?_), ⟨⟨_, he⟩, hit⟩, fun b hb => ?_, q⟩
    · obtain ⟨⟨old, he'⟩, ⟨o, ho, hc, hd⟩⟩ := st
      have e' : b = s1.heap.objs.size + 1 ∨ b = s1.heap.objs.size := by simpa using hb
      rcases e' with z | z
      · rw [z]; exact ⟨_, he', fun v q => nomatch q⟩
      · rw [z]; exact ⟨o, ho, fun v q => by rw [hd] at q; cases q⟩
    · obtain ⟨t', v, ⟨c, u, hc, rfl⟩, rfl⟩ := hp
      exact ⟨by show 2 ≤ sizeLine; decide, [.int (i : Nat), .str ⟨#[c]⟩], .cons ⟨_, rfl⟩ (.cons ⟨_, rfl⟩ .nil), c, hc, rfl⟩
    · obtain ⟨⟨old, he'⟩, _⟩ := st
      exact wpAny_pyIter_enum he' hq
    · have e' : b = s1.heap.objs.size + 1 ∨ b = s1.heap.objs.size := by simpa using hb
      have hle : s1.heap.objs.size ≤ b := by
        rcases e' with z | z
        · rw [z]; exact Nat.le_add_right _ _
        · rw [z]; exact Nat.le_refl _
      exact I1.fpOk hle (I1.hok.fresh hle)
def iZipX (ta : TA) : TI := fun σ H R => ta σ H fun vs H1 => ∃ l m, vs = [Tx l, Tx m] ∧ R (Itzx l m) H1
end
end Lt
namespace Lt
open PySem PySem.Spec PyProof.Rows L2 Evl
open SX (S)
theorem OpR.orr {X : Cx} {f : Value → Value → Sem Value} {r r' : R2} (h : OpR X f r) (h' : OpR X f r') : OpR X f (fun x y H Q => r x y H Q ∨ r' x y H Q) := by
  intro pins s σ H x y v u Q I rx ry q
  rcases q with q | q
  · exact h pins s σ H x y v u Q I rx ry q
  · exact h' pins s σ H x y v u Q I rx ry q
theorem OpR.wk {X : Cx} {f : Value → Value → Sem Value} {r r' : R2} (h : OpR X f r) (w : ∀ x y H Q, r' x y H Q → r x y H Q) : OpR X f r' := by
  intro pins s σ H x y v u Q I rx ry q
  exact h pins s σ H x y v u Q I rx ry (w _ _ _ _ q)
theorem CallR.wk {X : Cx} {f : Value} {r r' : List V → Hp → VK → Prop} (h : CallR X f r) (w : ∀ xs H Q, r' xs H Q → r xs H Q) : CallR X f r' := by
  intro pins s σ H xs us Q I rx q
  exact h pins s σ H xs us Q I rx (w _ _ _ q)
theorem SlR.wk {X : Cx} {r r' : V → Option Int → Option Int → Hp → VK → Prop} (h : L2.SlR X r) (w : ∀ x lo hi H Q, r' x lo hi H Q → r x lo hi H Q) : L2.SlR X r' := by
  intro pins s σ H x v vl vu lo hi sl Q I rx hs pl pu q
  exact h pins s σ H x v vl vu lo hi sl Q I rx hs pl pu (w _ _ _ _ _ q)
theorem IxR.wk {X : Cx} {r r' : R2} (h : IxR X r) (w : ∀ x y H Q, r' x y H Q → r x y H Q) : IxR X r' := by
  intro value slice pins s σ H x y v u Q I rx ry q
  exact h value slice pins s σ H x y v u Q I rx ry (w _ _ _ _ q)
section
variable {X : Cx}
def rAddI : R2 := rI0 fun i j => .int (i + j)
def rAddT : R2 := fun x y H Q => ∃ a b, x = Tx a ∧ y = Tx b ∧ a.length + b.length ≤ sizeLine ∧ Q (Tx (a ++ b)) H
theorem op_addT : OpR X (binaryOp .Add) rAddT := OpR.wk op_add_str fun x y H Q ⟨a, b, ex, ey, hl, q⟩ =>
  ⟨S a, S b, ex, ey, by rw [SX.S_len, SX.S_len]; exact hl, by rw [SX.S_cat]; exact q⟩
/-- a new object o at p, all else as it was -/
def New (H : Hp) (o : HO) (Q : VK) : Prop := ∀ (p : Addr) (H2 : Hp), H p = none → Ex H H2 → H2 p = some o → Q (.ref p) H2
theorem New.upd {H : Hp} {o : HO} {Q : VK} (h : New H o Q) : ∀ p, H p = none → Q (.ref p) (upd H p o) := fun p hp => h p _ hp (Ex.new hp) upd_same
def rCatX : R2 := fun x y H Q => ∃ l b xs zs, x = .ref l ∧ y = .ref b ∧ H l = some (.lst xs) ∧ H b = some (.lst zs) ∧ xs.length + zs.length ≤ sizeLine ∧ New H (.lst (xs ++ zs)) Q
theorem op_catX : OpR X (binaryOp .Add) rCatX := OpR.wk op_cat fun x y H Q ⟨l, b, xs, zs, e1, e2, h1, h2, hl, q⟩ => ⟨l, b, xs, zs, e1, e2, h1, h2, hl, q.upd⟩
/-- tuple + tuple: told as if it were always new, wherever that is all that's used -/
def rCatTX : R2 := fun x y H Q => ∃ a b xs ys, x = .ref a ∧ y = .ref b ∧ H a = some (.tup xs) ∧ H b = some (.tup ys) ∧ xs.length + ys.length ≤ sizeLine ∧ ∀ p H2, Ex H H2 → H2 p = some (.tup (xs ++ ys)) → Q (.ref p) H2
theorem op_catTX : OpR X (binaryOp .Add) rCatTX := OpR.wk (r := rCatA X.K) op_catA fun x y H Q ⟨a, b, xs, ys, e1, e2, h1, h2, hl, q⟩ =>
  ⟨a, b, xs, ys, e1, e2, SqT.of h1, SqT.of h2, hl, fun h => q b H (Ex.refl H) (by rw [h2, h]; rfl), fun _ h => q a H (Ex.refl H) (by rw [h1, h, List.append_nil]), fun _ _ p hp => q p _ (Ex.new hp) upd_same⟩
def rAddU : R2 := fun x y H Q => rAddI x y H Q ∨ rAddT x y H Q ∨ rCatX x y H Q ∨ rCatTX x y H Q
theorem op_addU : OpR X (binaryOp .Add) rAddU := OpR.orr op_add (OpR.orr op_addT (OpR.orr op_catX op_catTX))
def rLtU : R2 := fun x y H Q => (∃ i j, x = .int i ∧ y = .int j ∧ Q (.bl (decide (i < j))) H) ∨ ∃ a b, x = Tx a ∧ y = Tx b ∧ Q (.bl (decide (a < b))) H
def rGtU : R2 := fun x y H Q => (∃ i j, x = .int i ∧ y = .int j ∧ Q (.bl (decide (j < i))) H) ∨ ∃ a b, x = Tx a ∧ y = Tx b ∧ Q (.bl (decide (b < a))) H
theorem op_gtU : OpR X (compareOp .Gt) rGtU := OpR.orr op_gt (OpR.wk op_gt_str fun x y H Q ⟨a, b, ex, ey, q⟩ => ⟨S a, S b, ex, ey, by rw [S_cps, S_cps]; exact q⟩)
def rLeU : R2 := fun x y H Q => (∃ i j, x = .int i ∧ y = .int j ∧ Q (.bl (decide (i ≤ j))) H) ∨ ∃ a b, x = Tx a ∧ y = Tx b ∧ Q (.bl (!decide (b < a))) H
theorem op_leU : OpR X (compareOp .LtE) rLeU := OpR.orr op_le (OpR.wk op_le_str fun x y H Q ⟨a, b, ex, ey, q⟩ => ⟨S a, S b, ex, ey, by rw [S_cps, S_cps]; exact q⟩)
def rGeU : R2 := fun x y H Q => (∃ i j, x = .int i ∧ y = .int j ∧ Q (.bl (decide (j ≤ i))) H) ∨ ∃ a b, x = Tx a ∧ y = Tx b ∧ Q (.bl (!decide (a < b))) H
theorem op_geU : OpR X (compareOp .GtE) rGeU := OpR.orr op_ge (OpR.wk op_ge_str fun x y H Q ⟨a, b, ex, ey, q⟩ => ⟨S a, S b, ex, ey, by rw [S_cps, S_cps]; exact q⟩)
/-- == of texts, ints, other flat things; of data -/
def rEqU (K : PySem.W.Frag) : R2 := fun x y H Q => (∃ i j, x = .int i ∧ y = .int j ∧ Q (.bl (decide (i = j))) H) ∨ (∃ a b, x = Tx a ∧ y = Tx b ∧ Q (.bl (decide (a = b))) H) ∨ rEq x y H Q ∨
  ∃ d e, Dp K H x d ∧ Dp K H y e ∧ SeqAt.shaped d = true ∧ SeqAt.shaped e = true ∧ Q (.bl (PyData.eqv d e)) H
theorem op_eqU (hu : X.A.units + 64 < cLine) : OpR X (compareOp .Eq) (rEqU X.K) := OpR.orr (OpR.wk op_eq fun x y H Q ⟨i, j, ex, ey, q⟩ => by
    subst ex ey
    refine ⟨rfl, ?_⟩
    have e : decide (V.int i = V.int j) = decide (i = j) := by by_cases h : i = j <;> simp [h]
    rw [e]; exact q)
  (OpR.orr (OpR.wk op_eq fun x y H Q ⟨i, j, ex, ey, q⟩ => by
    subst ex ey
    refine ⟨rfl, ?_⟩
    rw [tx_dec]; exact q) (OpR.orr op_eq (op_eqD hu)))
def rNeU (K : PySem.W.Frag) : R2 := fun x y H Q => (∃ i j, x = .int i ∧ y = .int j ∧ Q (.bl (!decide (i = j))) H) ∨ (∃ a b, x = Tx a ∧ y = Tx b ∧ Q (.bl (!decide (a = b))) H) ∨ rNe x y H Q ∨
  ∃ d e, Dp K H x d ∧ Dp K H y e ∧ SeqAt.shaped d = true ∧ SeqAt.shaped e = true ∧ Q (.bl (!PyData.eqv d e)) H
theorem op_neU (hu : X.A.units + 64 < cLine) : OpR X (compareOp .NotEq) (rNeU X.K) := OpR.orr (OpR.wk op_ne fun x y H Q ⟨i, j, ex, ey, q⟩ => by
    subst ex ey
    refine ⟨rfl, ?_⟩
    have e : decide (V.int i = V.int j) = decide (i = j) := by by_cases h : i = j <;> simp [h]
    rw [e]; exact q)
  (OpR.orr (OpR.wk op_ne fun x y H Q ⟨i, j, ex, ey, q⟩ => by
    subst ex ey
    refine ⟨rfl, ?_⟩
    rw [tx_dec]; exact q) (OpR.orr op_ne (op_neD hu)))
/-- in: a sign in a text; a flat thing in a list or a tuple -/
def rInU (K : PySem.W.Frag) : R2 := fun x y H Q => (∃ c l, x = Tx [c] ∧ y = Tx l ∧ Q (.bl (decide (c ∈ l))) H) ∨ rIn K false x y H Q
theorem op_inU : OpR X (compareOp .In) (rInU X.K) := OpR.orr (OpR.wk op_in_sign fun x y H Q ⟨c, l, ex, ey, q⟩ => ⟨c, S l, ex, ey, by rw [S_cps]; exact q⟩) op_in_seq
def rNotInU (K : PySem.W.Frag) : R2 := fun x y H Q => (∃ c l, x = Tx [c] ∧ y = Tx l ∧ Q (.bl (!decide (c ∈ l))) H) ∨ rIn K true x y H Q
theorem op_notInU : OpR X (compareOp .NotIn) (rNotInU X.K) := OpR.orr (OpR.wk op_notIn_sign fun x y H Q ⟨c, l, ex, ey, q⟩ => ⟨c, S l, ex, ey, by rw [S_cps]; exact q⟩) op_notIn_seq
def rIxX : R2 := fun x y H Q => ∃ l i c, x = Tx l ∧ y = .int i ∧ l.length ≤ sizeLine ∧ atI l i = some c ∧ Q (Tx [c]) H
def rIxU (K : PySem.W.Frag) : R2 := fun x y H Q => rIxX x y H Q ∨ rIxT K x y H Q ∨ rIxL K x y H Q
theorem ix_U : IxR X (rIxU X.K) := IxR.wk ix_seq fun x y H Q h => by
  rcases h with ⟨l, i, c, ex, ey, hl, ha, q⟩ | h | h
  · exact .inr (.inr ⟨S l, i, c, ex, ey, by rw [SX.S_len]; exact hl, by rw [S_cps]; exact ha, q⟩)
  · exact .inr (.inl h)
  · exact .inl h
def cutL {α : Type} (l : List α) (lo hi : Option Int) : List α := (l.drop (HT.sIx l.length 0 lo)).take (HT.sIx l.length l.length hi - HT.sIx l.length 0 lo)
theorem cutL_length {α : Type} (l : List α) (lo hi : Option Int) : (cutL l lo hi).length ≤ l.length := by
  unfold cutL
  rw [List.length_take, List.length_drop]
  omega
theorem cutS_S (l : List Nat) (lo hi : Option Int) : cutS (S l) lo hi = S (cutL l lo hi) := by
  unfold cutS cutL
  rw [S_cps, SX.S_len]
def rSlX : V → Option Int → Option Int → Hp → VK → Prop := fun x lo hi H Q => ∃ l, x = Tx l ∧ l.length ≤ sizeLine ∧ Q (Tx (cutL l lo hi)) H
theorem sl_X : L2.SlR X rSlX := SlR.wk sl_str fun x lo hi H Q ⟨l, ex, hl, q⟩ => ⟨S l, ex, by rw [SX.S_len]; exact hl, by rw [cutS_S]; exact q⟩
def rSlLX : V → Option Int → Option Int → Hp → VK → Prop := fun x lo hi H Q => ∃ a xs, x = .ref a ∧ H a = some (.lst xs) ∧ New H (.lst (cutL xs lo hi)) Q
theorem sl_LX : L2.SlR X rSlLX := SlR.wk (r := rSlL X.K) sl_list fun x lo hi H Q ⟨a, xs, e, h, q⟩ => ⟨a, xs, e, SqL.of h, q.upd⟩
def rSlTX : V → Option Int → Option Int → Hp → VK → Prop := fun x lo hi H Q => ∃ a xs, x = .ref a ∧ H a = some (.tup xs) ∧ ∀ p H2, Ex H H2 → H2 p = some (.tup (cutL xs lo hi)) → Q (.ref p) H2
theorem cut_whole {α : Type} {xs : List α} {lo hi : Option Int} (h : HT.sIx xs.length 0 lo = 0 ∧ HT.sIx xs.length xs.length hi = xs.length) : cutL xs lo hi = xs := by
  unfold cutL
  rw [h.1, h.2, List.drop_zero, Nat.sub_zero, List.take_length]
theorem sl_TX : L2.SlR X rSlTX := SlR.wk (r := rSlA X.K) sl_tupA fun x lo hi H Q ⟨a, xs, e, h, q⟩ => ⟨a, xs, e, SqT.of h, fun c => q a H (Ex.refl H) (by rw [h, cut_whole c]), fun _ p hp => q p _ (Ex.new hp) upd_same⟩
def rSlU : V → Option Int → Option Int → Hp → VK → Prop := fun x lo hi H Q => rSlX x lo hi H Q ∨ rSlLX x lo hi H Q ∨ rSlTX x lo hi H Q
theorem sl_U : L2.SlR X rSlU := SlR.or sl_X (SlR.or sl_LX sl_TX)
/-- (a, b), [a, b] -/
def tTupX (t : TA) : TE := fun σ H Q => t σ H fun xs H1 => xs.length ≤ sizeLine ∧ New H1 (.tup xs) Q
def tLstX (t : TA) : TE := fun σ H Q => t σ H fun xs H1 => xs.length ≤ sizeLine ∧ New H1 (.lst xs) Q
theorem pe_tupX {es : List Expr} {t : TA} {x1 pos} (h : PA X es t) : PE X (.Tuple es x1 pos) (tTupX t) := by
  refine ⟨fun pins s σ H Q I hq => ?_⟩
  refine wpAny_Tuple_spliced (thn (h.run pos pins s σ H _ I hq) fun us s1 ⟨xs, H1, I1, r, z, q⟩ => ⟨by rw [← r.length]; exact z, ?_⟩)
  have hf : H1 s1.heap.objs.size = none := I1.hok.fresh (Nat.le_refl _)
  refine ⟨.ref s1.heap.objs.size, upd H1 s1.heap.objs.size (.tup xs), I1.laid (t' := s1.toks) (fun b u e => Heap.get?_push_of_some _ e) (Nat.le_refl _) ?_, rfl, q.upd _ hf⟩
  exact ⟨z, us, r, ⟨_, Heap.get?_push_size _ rfl, rfl, _, rfl⟩⟩
theorem pe_lstX {es : List Expr} {t : TA} {pos} (h : PA X es t) : PE X (.List es pos) (tLstX t) := by
  refine ⟨fun pins s σ H Q I hq => ?_⟩
  refine wpAny_List_spliced (thn (h.run pos pins s σ H _ I hq) fun us s1 ⟨xs, H1, I1, r, z, q⟩ => ⟨by rw [← r.length]; exact z, ?_⟩)
  have hf : H1 s1.heap.objs.size = none := I1.hok.fresh (Nat.le_refl _)
  refine ⟨.ref s1.heap.objs.size, upd H1 s1.heap.objs.size (.lst xs), I1.laid (t' := s1.toks) (fun b u e => Heap.get?_push_of_some _ e) (Nat.le_refl _) ?_, rfl, q.upd _ hf⟩
  exact ⟨z, us, 0, r, Heap.get?_push_size _ rfl⟩
def rLenU (K : PySem.W.Frag) : List V → Hp → VK → Prop := fun xs H Q => (∃ l, xs = [Tx l] ∧ l.length ≤ sizeLine ∧ Q (.int (l.length : Int)) H) ∨
  (∃ p ys, xs = [.ref p] ∧ (SqL K H p ys ∨ SqT K H p ys) ∧ Q (.int ys.length) H)
theorem call_lenU : CallR X (.builtin "len") (rLenU X.K) := CallR.or (CallR.wk call_len_str fun xs H Q ⟨l, ex, hl, q⟩ => ⟨S l, ex, by rw [SX.S_len]; exact hl, by rw [SX.S_len]; exact q⟩) call_len_seq
/-- text[::-1] -/
def tRevX (te : TE) : TE := fun σ H Q => te σ H fun x H1 => ∃ l, x = Tx l ∧ l.length ≤ sizeLine ∧ Q (Tx l.reverse) H1
theorem rev_idx (n : Nat) : Builtin.Str.strSliceIndices none none (-1) n = (List.range n).reverse := by
  have h := PySem.W.krv_sliceRange n
  unfold Builtin.Str.strSliceIndices
  simp only [show ¬ ((-1 : Int) > 0) by decide, if_false]
  rw [h, PySem.W.krv_range]
theorem pe_revX {e : Expr} {te : TE} {k : Nat} {p1 p2 p3 pos : Pos} (he : PE X e te) : PE X (.Subscript e (.Slice none none (some (.UnaryOp .USub (.Constant (.int 1) k p1) p2)) p3) pos) (tRevX te) := by
  refine ⟨fun pins s σ H Q I h => ?_⟩
  refine Subscript_ (thn (he.run pins s σ H _ I h) fun v s1 ⟨x, H1, I1, r1, q1⟩ => ?_)
  obtain ⟨z, ex, hz, q⟩ := q1
  subst ex
  obtain ⟨t, rfl⟩ := r1
  have hst : PO X (some (.UnaryOp .USub (.Constant (.int 1) k p1) p2)) (tPart (tUn (rU fun i => .int (-i)) (tC (.int 1)))) := po_some (pe_un un_neg pe_int)
  refine wpAny_Slice (thn (po_none.run pins s1 σ H1 (fun o H2 => o = none ∧ H2 = H1) I1 ⟨rfl, rfl⟩) fun vl s2 ⟨l, H2, I2, pl, el, e2⟩ => ?_)
  subst el e2
  refine thn (po_none.run pins s2 σ H2 (fun o H3 => o = none ∧ H3 = H2) I2 ⟨rfl, rfl⟩) fun vu s3 ⟨u, H3, I3, pu, eu, e3⟩ => ?_
  subst eu e3
  refine thn (hst.run pins s3 σ H3 (fun o H4 => o = some (-1) ∧ H4 = H3) I3 ⟨1, rfl, -1, rfl, rfl, rfl⟩) fun vs s4 ⟨o, H4, I4, ps, eo, e4⟩ => ?_
  subst eo e4
  have I5 : Inv X pins σ H4 { s4 with heap := s4.heap.push { cls := .type "slice", data := .fields #[vl, vu, vs] } } := I4.kept (t' := s4.toks) fun b ob q => Heap.get?_push_of_some _ q
  obtain ⟨l', rfl, el⟩ := IsPart.raw pl
  obtain ⟨u', rfl, eu⟩ := IsPart.raw pu
  obtain ⟨st', rfl, e5⟩ := IsPart.raw ps
  cases l' with
  | some _ => cases el
  | none =>
  cases u' with
  | some _ => cases eu
  | none =>
  cases st' with
  | none => cases e5
  | some st' =>
  have e5 : st'.1 = -1 := Option.some.inj e5
  show wpAny (model X.prog X.w) X.A (subscriptTail e (.Slice none none (some (.UnaryOp .USub (.Constant (.int 1) k p1) p2)) p3) (.str (S z) t) (.ref s4.heap.objs.size)) (EP X pins σ Q) X.xe _
  refine tail_any (ops := [.str (S z) t, .ref s4.heap.objs.size]) (typeIs_str _ _ _) (F.slot_str_getitem.lookup) ?_ (by with_unfolding_all rfl)
  refine wpAny_getItem_str_slice (l := none) (u := none) (st := some st') ⟨_, Heap.get?_push_size _ rfl, rfl, rfl⟩ (by show (st'.1 == 0) = false; rw [e5]; rfl) ?_
  unfold sliceMade
  show Made.post (if ((st'.1 == 1) && (Builtin.Str.strSliceIndices none none st'.1 (S z).length).length == (S z).length) = true then Made.val (.str (S z) t)
    else Made.str ⟨((Builtin.Str.strSliceIndices none none st'.1 (S z).length).filterMap ((S z).cps[·]?)).toArray⟩) (EP X pins σ Q) _
  rw [e5, show ((-1 : Int) == 1) = false from rfl, Bool.false_and, if_neg Bool.false_ne_true, rev_idx, List.filterMap_reverse]
  have hall : (List.range (S z).length).filterMap ((S z).cps[·]?) = z := by
    have h := PySem.W.krv_all (S z).cps
    rw [S_cps] at h
    exact h
  rw [hall]
  exact ⟨by show z.reverse.toArray.size ≤ sizeLine; rw [List.size_toArray, List.length_reverse]; exact hz, Tx z.reverse, _, I5.tok _, ⟨_, rfl⟩, q⟩
def Itx (l : List Nat) : It := Its (S l)
theorem walk_tx {l : List Nat} : Walk (Itx l) l.length (fun _ => True) (fun i H v H' => H' = H ∧ ∃ c, l[i]? = some c ∧ v = Tx [c]) := by
  have w := walk_str (z := S l)
  rw [S_size] at w
  refine w.mono (fun _ h => h) fun i H v H' _ _ ⟨e, c, hc, hv⟩ => ⟨e, c, ?_, hv⟩
  rw [← hc]; simp [S]
def iAny (K : PySem.W.Frag) (te : TE) : TI := fun σ H R => te σ H fun v H1 => (∃ l, v = Tx l ∧ R (Itx l) H1) ∨ (∃ a xs, v = .ref a ∧ SqT K H1 a xs ∧ R (Itt K a) H1) ∨ (∃ a xs, v = .ref a ∧ SqL K H1 a xs ∧ R (Itl K a) H1)
theorem pi_any {tg e : Expr} {te : TE} (he : PE X e te) : PI X tg e (iAny X.K te) := by
  refine ⟨fun pins s σ H R I h => ?_⟩
  refine thn (he.run pins s σ H _ I h) fun v s1 ⟨y, H1, I1, r1, q1⟩ => ?_
  rcases q1 with ⟨l, ex, q⟩ | ⟨a, xs, e, hq, q⟩ | ⟨a, xs, e, hq, q⟩
  · subst ex
    obtain ⟨t, rfl⟩ := r1
    cases ha : (S l).cps.all (· < 128)
    · exact wpAny_pyIter_wide ha (pi_one (tk := s1.toks) I1 _ (turn_str _ (S l) t "str_iterator" (.inr rfl)) ⟨_, Heap.get?_push_size _ rfl, rfl, rfl⟩ q)
    · exact wpAny_pyIter_ascii ha (pi_one (tk := s1.toks) I1 _ (turn_str _ (S l) t "str_ascii_iterator" (.inl rfl)) ⟨_, Heap.get?_push_size _ rfl, rfl, rfl⟩ q)
  · subst e
    cases r1
    obtain ⟨its, rv, p, hz⟩ := I1.tuple hq
    refine wpAny_pyIter_tuple (show s1.heap.IsTuple a its.toArray from p) ?_
    refine ⟨s1.heap.objs.size, [s1.heap.objs.size], _, _, H1, rfl, I1.kept (t' := s1.toks) fun b o e => Heap.get?_push_of_some _ e, turn_tuple a _, ⟨_, Heap.get?_push_size _ rfl, rfl, rfl⟩, fun b hb => ?_, q⟩
    have e : b = s1.heap.objs.size := by simpa using hb
    subst e
    exact I1.fpOk (Nat.le_refl _) (I1.hok.fresh (Nat.le_refl _))
  · subst e
    cases r1
    obtain ⟨its, rv, p, hz⟩ := I1.list hq
    refine wpAny_pyIter_list p.isList ?_
    refine ⟨s1.heap.objs.size, [s1.heap.objs.size], _, _, H1, rfl, I1.kept (t' := s1.toks) fun b o e => Heap.get?_push_of_some _ e, turn_list a _, ⟨_, Heap.get?_push_size _ rfl, rfl, rfl⟩, fun b hb => ?_, q⟩
    have e : b = s1.heap.objs.size := by simpa using hb
    subst e
    exact I1.fpOk (Nat.le_refl _) (I1.hok.fresh (Nat.le_refl _))
/-- a new tuple is given -/
def YNew (R : Nat → List V → Prop) : Nat → Hp → V → Hp → Prop := fun i H v H' => ∃ T xs, v = .ref T ∧ H T = none ∧ Ex H H' ∧ H' T = some (.tup xs) ∧ R i xs
theorem walk_w {n : Nat} {R : Nat → List V → Prop} : Walk (Itw n R) n (fun _ => True) (YNew R) :=
  ⟨fun _ _ hi _ => hi, fun _ _ => rfl, fun _ _ _ _ _ _ ⟨T, xs, e, hT, hH, r⟩ => ⟨T, xs, e, hT, by rw [hH]; exact Ex.new hT, by rw [hH]; exact upd_same, r⟩⟩
inductive Tg (H : Hp) : V → String → Prop where
  | non : Tg H .non "NoneType"
  | bl (b : Bool) : Tg H (.bl b) "bool"
  | int (i : Int) : Tg H (.int i) "int"
  | str (x : Str) : Tg H (.str x) "str"
  | lst {a xs} (h : H a = some (.lst xs)) : Tg H (.ref a) "list"
  | tup {a xs} (h : Rd H a (.tup xs)) : Tg H (.ref a) "tuple"
  | dK {a kvs} (h : H a = some (.dK kvs)) : Tg H (.ref a) "dict"
def isiB (t n : String) : Bool := t == n || (t == "bool" && n == "int")
theorem tg_ty {K : PySem.W.Frag} {H : Hp} {x : V} {t : String} (h : Tg H x t) : TyX K H x (.type t) := by
  cases h with
  | non => exact .base .non
  | bl b => exact .base (.bl b)
  | int i => exact .base (.int i)
  | str i => exact .base (.str i)
  | lst h => exact .base (.lst h)
  | tup h =>
    rcases h with h | ⟨o, h⟩
    · exact .base (.tup h)
    · exact .fTuple h
  | dK h => exact .base (.dK h)
theorem kit_tab {K : PySem.W.Frag} : ∀ t ∈ ["NoneType", "bool", "int", "str", "list", "tuple", "dict"], ∀ n ∈ ["int", "bool", "str", "tuple", "list"], PySem.W.kitOne K (.type t) (.type n) = some (isiB t n) := by
  intro t ht n hn
  simp only [List.mem_cons, List.not_mem_nil, or_false] at ht hn
  rcases ht with rfl | rfl | rfl | rfl | rfl | rfl | rfl <;> rcases hn with rfl | rfl | rfl | rfl | rfl <;> exact kit_ty (by decide +kernel)
def rIsU : List V → Hp → VK → Prop := fun xs H Q => ∃ x t n, xs = [x, .ty n] ∧ Tg H x t ∧ n ∈ ["int", "bool", "str", "tuple", "list"] ∧ Q (.bl (isiB t n)) H
theorem call_isU : CallR X (.builtin "isinstance") rIsU := CallR.wk call_isi fun xs H Q ⟨x, t, n, e, h, hn, q⟩ =>
  ⟨x, .ty n, .type t, .type n, _, e, .ty n, tg_ty h, kit_tab t (by cases h <;> simp) n hn, q⟩
end
end Lt
namespace Lt
open PySem PySem.Spec PyProof.Rows L2 Evl
open SX (S)
theorem _root_.L2.Rd.ex {H H' : Hp} {a : Addr} {u : HO} (r : Rd H a u) (e : Ex H H') : Rd H' a u := r.elim (fun h => .inl (e _ _ h)) fun ⟨o, h⟩ => .inr ⟨o, e _ _ h⟩
mutual
inductive Rp (H : Hp) : V → PyData → Prop
  | non : Rp H .non .none
  | bl (b : Bool) : Rp H (.bl b) (.bool b)
  | int (i : Int) : Rp H (.int i) (.int i)
  | str (x : Str) : Rp H (.str x) (.str x)
  | lst {a : Addr} {xs : List V} {ds : List PyData} : H a = some (.lst xs) → RpAll H xs ds → Rp H (.ref a) (.list ds)
  | tup {a : Addr} {xs : List V} {ds : List PyData} : Rd H a (.tup xs) → RpAll H xs ds → Rp H (.ref a) (.tuple ds)
inductive RpAll (H : Hp) : List V → List PyData → Prop
  | nil : RpAll H [] []
  | cons {v : V} {vs : List V} {d : PyData} {ds : List PyData} : Rp H v d → RpAll H vs ds → RpAll H (v :: vs) (d :: ds)
end
mutual
theorem Rp.dp {K : PySem.W.Frag} {H : Hp} : ∀ {d : PyData} {v : V}, Rp H v d → Dp K H v d
  | .none, _, h => by cases h; exact .non
  | .bool b, _, h => by cases h; exact .bl b
  | .int b, _, h => by cases h; exact .int b
  | .str b, _, h => by cases h; exact .str b
  | .list ds, _, h => by
    cases h with
    | lst h1 h2 => exact .lst (SqL.of h1) (RpAll.dp h2)
  | .tuple ds, _, h => by
    cases h with
    | tup h1 h2 => exact .tup (.inl h1) (RpAll.dp h2)
  | .dict _, _, h => by cases h
theorem RpAll.dp {K : PySem.W.Frag} {H : Hp} : ∀ {ds : List PyData} {vs : List V}, RpAll H vs ds → DpAll K H vs ds
  | [], _, h => by cases h; exact .nil
  | d :: ds, _, h => by
    cases h with
    | cons h1 h2 => exact .cons (Rp.dp h1) (RpAll.dp h2)
end
mutual
theorem Rp.ex {H H' : Hp} (e : Ex H H') : ∀ {d : PyData} {v : V}, Rp H v d → Rp H' v d
  | .none, _, h => by cases h; exact .non
  | .bool b, _, h => by cases h; exact .bl b
  | .int b, _, h => by cases h; exact .int b
  | .str b, _, h => by cases h; exact .str b
  | .list ds, _, h => by
    cases h with
    | lst h1 h2 => exact .lst (e _ _ h1) (RpAll.ex e h2)
  | .tuple ds, _, h => by
    cases h with
    | tup h1 h2 => exact .tup (h1.ex e) (RpAll.ex e h2)
  | .dict _, _, h => by cases h
theorem RpAll.ex {H H' : Hp} (e : Ex H H') : ∀ {ds : List PyData} {vs : List V}, RpAll H vs ds → RpAll H' vs ds
  | [], _, h => by cases h; exact .nil
  | d :: ds, _, h => by
    cases h with
    | cons h1 h2 => exact .cons (Rp.ex e h1) (RpAll.ex e h2)
end
mutual
def flatD : PyData → Bool
  | .list _ => false
  | .tuple ds => flatDs ds
  | .dict _ => false
  | _ => true
def flatDs : List PyData → Bool
  | [] => true
  | d :: ds => flatD d && flatDs ds
end
mutual
theorem Rp.exT {H H' : Hp} (e : ∀ b xs, Rd H b (.tup xs) → Rd H' b (.tup xs)) : ∀ {d : PyData} {v : V}, flatD d = true → Rp H v d → Rp H' v d
  | .none, _, _, h => by cases h; exact .non
  | .bool b, _, _, h => by cases h; exact .bl b
  | .int b, _, _, h => by cases h; exact .int b
  | .str b, _, _, h => by cases h; exact .str b
  | .list ds, _, f, h => by simp [flatD] at f
  | .tuple ds, _, f, h => by
    cases h with
    | tup h1 h2 => exact .tup (e _ _ h1) (RpAll.exT e (by simpa [flatD] using f) h2)
  | .dict _, _, _, h => by cases h
theorem RpAll.exT {H H' : Hp} (e : ∀ b xs, Rd H b (.tup xs) → Rd H' b (.tup xs)) : ∀ {ds : List PyData} {vs : List V}, flatDs ds = true → RpAll H vs ds → RpAll H' vs ds
  | [], _, _, h => by cases h; exact .nil
  | d :: ds, _, f, h => by
    cases h with
    | cons h1 h2 =>
      have f' : flatD d = true ∧ flatDs ds = true := by simpa [flatDs] using f
      exact .cons (Rp.exT e f'.1 h1) (RpAll.exT e f'.2 h2)
end
section
variable {H H' : Hp} {vs ws : List V} {ds es : List PyData} {v : V} {d : PyData}
theorem RpAll.length (h : RpAll H vs ds) : vs.length = ds.length := by
  induction ds generalizing vs with
  | nil => cases h; rfl
  | cons d ds ih => cases h with
    | cons h1 h2 => simp [ih h2]
theorem RpAll.append (h : RpAll H vs ds) (h' : RpAll H ws es) : RpAll H (vs ++ ws) (ds ++ es) := by
  induction ds generalizing vs with
  | nil => cases h; exact h'
  | cons d ds ih => cases h with
    | cons h1 h2 => exact .cons h1 (ih h2)
theorem RpAll.one (h : Rp H v d) : RpAll H [v] [d] := .cons h .nil
theorem RpAll.get {i : Nat} (h : RpAll H vs ds) (hd : ds[i]? = some d) : ∃ v, vs[i]? = some v ∧ Rp H v d := by
  induction ds generalizing vs i with
  | nil => simp at hd
  | cons e ds ih => cases h with
    | cons h1 h2 =>
      cases i with
      | zero => simp at hd; subst hd; exact ⟨_, rfl, h1⟩
      | succ i =>
        obtain ⟨v, hv, r⟩ := ih h2 (by simpa using hd)
        exact ⟨v, by simpa using hv, r⟩
theorem RpAll.get' {i : Nat} (h : RpAll H vs ds) (hv : vs[i]? = some v) : ∃ d, ds[i]? = some d ∧ Rp H v d := by
  have hi := (List.getElem?_eq_some_iff.mp hv).1
  rw [h.length] at hi
  obtain ⟨w, hw, r⟩ := h.get (List.getElem?_eq_getElem hi)
  rw [hv] at hw; cases hw
  exact ⟨_, List.getElem?_eq_getElem hi, r⟩
theorem rp_str {x : Str} (h : Rp H v (.str x)) : v = .str x := by cases h; rfl
theorem rp_int {i : Int} (h : Rp H v (.int i)) : v = .int i := by cases h; rfl
theorem rp_bool {b : Bool} (h : Rp H v (.bool b)) : v = .bl b := by cases h; rfl
theorem rpall_nil (h : RpAll H vs []) : vs = [] := by cases h; rfl
theorem rpall_cons (h : RpAll H vs (d :: ds)) : ∃ v ws, vs = v :: ws ∧ Rp H v d ∧ RpAll H ws ds := by
  cases h with
  | cons h1 h2 => exact ⟨_, _, rfl, h1, h2⟩
theorem rpall_ints {H : Hp} : ∀ {l : List Int} {vs : List V}, RpAll H vs (l.map .int) → vs = l.map .int
  | [], _, h => rpall_nil h
  | x :: l, _, h => by
    obtain ⟨v, ws, rfl, h1, h2⟩ := rpall_cons h
    rw [rp_int h1, rpall_ints h2]; rfl
end
structure DiceOk (xs : List Int) : Prop where
  two : 2 ≤ xs.length
  most : xs.length ≤ 1000
  pos : ∀ x ∈ xs, 0 ≤ x
  seed : ∀ x, xs[0]? = some x → x < 2147483647
def DiceO (a : Addr) : HO := .ext fun h => ∃ (xs : List Int) (its : List Value) (n : Nat), DiceOk xs ∧ Vals (xs.map V.int) its ∧ h.get? a = some { cls := .type "list", data := .seq its.toArray n }
section
variable {X : Cx} {pins : List (Addr × Obj)} {σ : L2.St} {H : Hp} {s : Shared}
theorem Inv.openD {a : Addr} (I : L2.Inv X pins σ H s) (h : H a = some (DiceO a)) : ∃ xs, DiceOk xs ∧ L2.Inv X pins σ (upd H a (.lst (xs.map V.int))) s := by
  obtain ⟨⟨xs, its, n, ok, r, e⟩, _, _⟩ := I.hok a _ h
  have hl : (xs.map V.int).length ≤ sizeLine := by rw [List.length_map]; exact Nat.le_trans ok.most (by decide)
  exact ⟨xs, ok, I.write (t' := s.toks) (h' := s.heap) (e := a) (by rw [h]; exact trivial) (.inl rfl) (fun b u _ q => q) ⟨_, e⟩ ⟨hl, its, n, r, e⟩⟩
theorem Inv.closeD {a : Addr} {xs : List Int} (I : L2.Inv X pins σ H s) (h : H a = some (.lst (xs.map V.int))) (ok : DiceOk xs) : L2.Inv X pins σ (upd H a (DiceO a)) s := by
  obtain ⟨hl, its, n, r, e⟩ := I.hok a _ h
  exact I.write (t' := s.toks) (h' := s.heap) (e := a) (by rw [h]; exact trivial) (.inl rfl) (fun b u _ q => q) ⟨_, e⟩
    ⟨⟨xs, its, n, ok, r, e⟩, ⟨_, e⟩, fun h1 h2 ⟨xs, its, n, ok, r, e⟩ k => ⟨xs, its, n, ok, r, k _ e⟩⟩
/-- within, it is read and written as a list -/
def tOpen (t : TS) : TS := fun D σ H => ∃ a, H a = some (DiceO a) ∧ ∀ xs, DiceOk xs → t D σ (upd H a (.lst (xs.map V.int)))
theorem pss_open {sts : List Stmt} {t : TS} (h : PSs X sts t) : PSs X sts (tOpen t) := by
  refine ⟨fun pins s σ H D I q => ?_⟩
  obtain ⟨a, ha, q⟩ := q
  obtain ⟨xs, ok, J⟩ := Inv.openD I ha
  exact h.run pins s σ _ D J (q xs ok)
/-- what is wanted of a value and a heap in which it stands as a list -/
def closeK (Q : VK) : VK := fun v H' => ∃ a xs, H' a = some (.lst (xs.map V.int)) ∧ DiceOk xs ∧ Q v (upd H' a (DiceO a))
def tClose (t : TS) : TS := fun D σ H => t { D with nx := fun _ _ => False, rt := closeK D.rt, bk := fun _ _ => False, ct := fun _ _ => False } σ H
theorem pss_close {sts : List Stmt} {t : TS} (h : PSs X sts t) : PSs X sts (tClose t) := by
  refine ⟨fun pins s σ H D I q => ?_⟩
  refine thn (h.run pins s σ H _ I q) fun f s1 z => ?_
  cases f with
  | next => obtain ⟨_, _, _, z⟩ := z; exact z.elim
  | brk => obtain ⟨_, _, _, z⟩ := z; exact z.elim
  | cont => obtain ⟨_, _, _, z⟩ := z; exact z.elim
  | ret u =>
    obtain ⟨v, σ', H', I', r, a, xs, ha, ok, q⟩ := z
    exact ⟨v, σ', _, Inv.closeD I' ha ok, r, q⟩
end
structure Has (P : Program) (w : World) (K : PySem.W.Frag) (mg : Str → Option Value) (base : Heap) (CX : CXT) (k : Nat) (x : Str) (ps : List Str) (sp : Sp) : Prop where
  ex : ∃ (f : Addr) (fd : FuncData), mg x = some (.ref f) ∧ PySem.W.keepIn K (.ref f) = true ∧ Binds K fd ps [] ∧ FnOk P w K mg base CX k f fd ps sp
end Lt
namespace Lt
open PySem PySem.Spec PyProof.Rows L2 Evl
open SX (S)
/-- list(text), list(list or tuple) -/
def rListU (K : PySem.W.Frag) : List V → Hp → VK → Prop := fun xs H Q => (∃ l, xs = [Tx l] ∧ l.length ≤ sizeLine ∧ New H (.lst (l.map fun c => Tx [c])) Q) ∨
  (∃ p ys, xs = [.ref p] ∧ (SqL K H p ys ∨ SqT K H p ys) ∧ New H (.lst ys) Q)
theorem signs_vals {l : List Nat} {acc : Array Value} (h : ItemsOf (SignAt (S l)) acc l.length) : Vals (l.map fun c => Tx [c]) acc.toList := by
  have e : acc.toList.length = l.length := by rw [Array.length_toList]; exact h.1
  have q := vals_of_get acc.toList (fun i => Tx [l.getD i 0]) fun j u hj => by
    obtain ⟨c, u', hc, rfl⟩ := h.2 j u (by rw [← hj, Array.getElem?_toList])
    have hc' : l[j]? = some c := by simpa [S] using hc
    refine ⟨u', ?_⟩
    rw [List.getD_eq_getElem?_getD, hc']
    rfl
  have e2 : (List.range acc.toList.length).map (fun i => Tx [l.getD i 0]) = l.map fun c => Tx [c] := by
    rw [e]
    refine List.ext_getElem (by simp) fun i h1 h2 => ?_
    simp at h2
    simp [List.getD_eq_getElem?_getD, h2]
  rw [← e2]
  exact q
theorem call_listS {X : Cx} (hc : X.calm = true) : CallR X (.type "list") (fun xs H Q => ∃ l, xs = [Tx l] ∧ l.length ≤ sizeLine ∧ ∀ p, H p = none → Q (.ref p) (upd H p (.lst (l.map fun c => Tx [c])))) := by
  intro pins s σ H xs us Q I r h
  obtain ⟨l, rfl, hl, q⟩ := h
  obtain ⟨u, rfl, t, rfl⟩ := vals1 r
  have hsz : (S l).cps.size ≤ sizeLine := by rw [S_size]; exact hl
  refine call_list_str (I.ok.hd hc) (S l) t (fun h' tk acc c' hk e hi => ?_) hsz
  rw [S_size] at hi
  refine ⟨.ref s.heap.objs.size, upd H s.heap.objs.size (.lst (l.map fun c => Tx [c])), I.laid hk (Nat.le_refl _) (show ObjOk X.prog X.w _ _ _ (.lst (l.map fun c => Tx [c])) from ⟨?_, acc.toList, c', signs_vals hi, ?_⟩), rfl, q _ (I.hok.fresh (Nat.le_refl _))⟩
  · rw [List.length_map]; exact hl
  · rw [Array.toArray_toList]; exact e
theorem call_listU {X : Cx} (hc : X.calm = true) : CallR X (.type "list") (rListU X.K) := CallR.wk (CallR.or (call_listS hc) call_list_of) fun xs H Q h => by
  rcases h with ⟨l, e, hl, q⟩ | ⟨p, ys, e, h, q⟩
  · exact .inl ⟨l, e, hl, q.upd⟩
  · exact .inr ⟨p, ys, e, h, q.upd⟩
/-- x.join(list or tuple of texts) -/
def rJoinX (K : PySem.W.Frag) : V → List V → Hp → VK → Prop := fun x xs H Q => ∃ a p, ∃ ys : List (List Nat), x = Tx a ∧ xs = [.ref p] ∧ (SqL K H p (ys.map fun l => Tx l) ∨ SqT K H p (ys.map fun l => Tx l)) ∧
  (ys.map (·.length)).sum + ys.length * a.length ≤ 16777216 ∧ Q (Tx (TL.joinL a ys)) H
theorem MtR.wk {X : Cx} {id : String} {r r' : V → List V → Hp → VK → Prop} (h : MtR X id r) (w : ∀ x xs H Q, r' x xs H Q → r x xs H Q) : MtR X id r' := by
  intro pins s σ H x xs v us Q I rx rr q
  exact h pins s σ H x xs v us Q I rx rr (w _ _ _ _ q)
theorem mt_joinX {X : Cx} : MtR X "str.join" (rJoinX X.K) := MtR.wk mt_join fun x xs H Q ⟨a, p, ys, ex, exs, hq, hz, q⟩ => by
  have e : ys.map (fun l => Tx l) = (ys.map S).map V.str := by rw [List.map_map]; rfl
  rw [e] at hq
  refine ⟨S a, p, ys.map S, ex, exs, hq, ?_, ?_⟩
  · rw [SX.lens, List.length_map, SX.S_len]; exact hz
  · rw [SX.join_S]; exact q
/-- a constant of the module -/
theorem pe_gc {X : Cx} {x : Str} {v : V} {pos : Pos} (hg : Gl X x) (hm : ∃ u, X.mg x = some u ∧ RelV v u) (hd : (x == ("__debug__" : Str)) = false := by decide) : PE X (.Name x pos) (tC v) := by
  obtain ⟨u, hu, r⟩ := hm
  exact pe_glob hg hu r hd
section
variable {σ : L2.St} {H H' : Hp} {D : Ends} {te ta tb : TE} {tt : TT} {t u : TS} {Q : VK} {K : PySem.W.Frag} {v x y : V} {i j : Int} {a b l : List Nat} {p : Addr} {xs ys : List V}
theorem w_nx {f : L2.St → Hp → Prop} {r : VK} {b c : L2.St → Hp → Prop} (h : f σ H) : Ends.nx ⟨f, r, b, c⟩ σ H := h
theorem w_rt {f : L2.St → Hp → Prop} {r : VK} {b c : L2.St → Hp → Prop} (h : r v H) : Ends.rt ⟨f, r, b, c⟩ v H := h
theorem w_bk {f : L2.St → Hp → Prop} {r : VK} {b c : L2.St → Hp → Prop} (h : b σ H) : Ends.bk ⟨f, r, b, c⟩ σ H := h
theorem w_ct {f : L2.St → Hp → Prop} {r : VK} {b c : L2.St → Hp → Prop} (h : c σ H) : Ends.ct ⟨f, r, b, c⟩ σ H := h
theorem w_seq (h : t { D with nx := u D } σ H) : tSeq t u D σ H := h
theorem w_next (h : D.nx σ H) : tNext D σ H := h
theorem w_asg {g : TG} (h : te σ H fun x H1 => g x σ H1 D.nx) : tAsg te g D σ H := h
theorem w_name {k : Nat} {Q : L2.St → Hp → Prop} (h : Q (σ.set k (some v)) H) : gName k v σ H Q := h
theorem w_ret (h : te σ H D.rt) : tRet te D σ H := h
theorem w_retN (h : D.rt .non H) : tRetN D σ H := h
theorem w_drop (h : te σ H fun _ H1 => D.nx σ H1) : tDrop te D σ H := h
theorem w_break (h : D.bk σ H) : tBreak D σ H := h
theorem w_cont (h : D.ct σ H) : tCont D σ H := h
theorem w_ifS (h : tt σ H fun b H1 => if b = true then t D σ H1 else u D σ H1) : tIfS tt t u D σ H := h
theorem w_aug {k : Nat} {ti : TIp} {x : V} (hx : σ[k]? = some (some x)) (h : te σ H fun y H1 => ti x y H1 fun z H2 => D.nx (σ.set k (some z)) H2) : tAug k te ti D σ H := ⟨x, hx, h⟩
theorem w_par2 {k m : Nat} {ta : TA} (h : ta σ H fun vs H1 => ∃ v w, vs = [v, w] ∧ D.nx ((σ.set k (some v)).set m (some w)) H1) : tPar k m ta D σ H := h
theorem w_two {v w : V} {P : V → V → Prop} (h : P v w) : ∃ v' w', [v, w] = [v', w'] ∧ P v' w' := ⟨v, w, rfl, h⟩
theorem w_three {u v w : V} {P : V → V → V → Prop} (h : P u v w) : ∃ u' v' w', [u, v, w] = [u', v', w'] ∧ P u' v' w' := ⟨u, v, w, rfl, h⟩
theorem w_par3 {k m n : Nat} {ta : TA} (h : ta σ H fun vs H1 => ∃ u v w, vs = [u, v, w] ∧ D.nx (((σ.set k (some u)).set m (some v)).set n (some w)) H1) : tPar3 k m n ta D σ H := h
/-- a, b = a tuple's items -/
theorem w_gtup {n : Nat} {tg : TGs} {Q : L2.St → Hp → Prop} (h : Rd H p (.tup xs)) (hn : xs.length = n) (k : tg xs σ H Q) : gTup K n tg (.ref p) σ H Q := ⟨p, xs, rfl, (.inl h), hn, k⟩
theorem w_gcons {tg : TG} {tgs : TGs} {Q : L2.St → Hp → Prop} (h : tg v σ H fun σ' H' => tgs xs σ' H' Q) : gCons tg tgs (v :: xs) σ H Q := ⟨v, xs, rfl, h⟩
theorem w_gnil {Q : L2.St → Hp → Prop} (h : Q σ H) : gNil [] σ H Q := ⟨rfl, h⟩
theorem w_var {k : Nat} (hx : σ[k]? = some (some v)) (h : Q v H) : tVar k σ H Q := ⟨v, hx, h⟩
theorem w_c (h : Q v H) : tC v σ H Q := h
theorem w_op {r : R2} (h : ta σ H fun x H1 => tb σ H1 fun y H2 => r x y H2 Q) : tOp r ta tb σ H Q := h
theorem w_un {r : V → Hp → VK → Prop} (h : ta σ H fun x H1 => r x H1 Q) : tUn r ta σ H Q := h
theorem w_neg (h : Q (.int (-i)) H) : rU (fun i => .int (-i)) (.int i) H Q := ⟨i, rfl, h⟩
theorem w_cb {r : List V → Hp → VK → Prop} {ta : TA} (h : ta σ H fun vs H1 => r vs H1 Q) : tCB r ta σ H Q := h
theorem w_call {sp : Sp} {dvs : List V} {E : XK} {ta : TA} (h : ta σ H fun vs H1 => sp (vs ++ dvs) H1 Q E) : tCall sp dvs E ta σ H Q := h
theorem w_cons {tr : TA} {Q : List V → Hp → Prop} (h : te σ H fun x H1 => tr σ H1 fun xs H2 => Q (x :: xs) H2) : tCons te tr σ H Q := h
theorem w_nil {Q : List V → Hp → Prop} (h : Q [] H) : tNil σ H Q := h
theorem w_if (h : tt σ H fun c H1 => if c = true then ta σ H1 Q else tb σ H1 Q) : tIf tt ta tb σ H Q := h
theorem w_sl {r : V → Option Int → Option Int → Hp → VK → Prop} {tl th : TO} (h : te σ H fun x H1 => tl σ H1 fun l H2 => th σ H2 fun u H3 => r x l u H3 Q) : tSl r te tl th σ H Q := h
theorem w_part {Q : Option Int → Hp → Prop} (h : te σ H fun x H1 => ∃ i, x = .int i ∧ Q (some i) H1) : tPart te σ H Q := h
theorem w_intk {P : Int → Prop} (h : P i) : ∃ i', V.int i = V.int i' ∧ P i' := ⟨i, rfl, h⟩
theorem w_noPart {Q : Option Int → Hp → Prop} (h : Q none H) : tNoPart σ H Q := h
theorem w_revX (h : te σ H fun x H1 => ∃ l, x = Tx l ∧ l.length ≤ sizeLine ∧ Q (Tx l.reverse) H1) : tRevX te σ H Q := h
theorem w_revX2 {P : List Nat → Prop} (hl : l.length ≤ sizeLine) (h : P l) : ∃ l', Tx l = Tx l' ∧ l'.length ≤ sizeLine ∧ P l' := ⟨l, rfl, hl, h⟩
/-- a new tuple, a new list -/
theorem w_tup {ta : TA} (h : ta σ H fun xs H1 => xs.length ≤ sizeLine ∧ New H1 (.tup xs) Q) : tTupX ta σ H Q := h
theorem w_lst {ta : TA} (h : ta σ H fun xs H1 => xs.length ≤ sizeLine ∧ New H1 (.lst xs) Q) : tLstX ta σ H Q := h
theorem w_new {o : HO} {n : Nat} (hn : n ≤ sizeLine) (h : ∀ (p : Addr) (H2 : Hp), H p = none → Ex H H2 → H2 p = some o → Q (.ref p) H2) : n ≤ sizeLine ∧ New H o Q := ⟨hn, h⟩
theorem w_newN {o : HO} (h : ∀ (p : Addr) (H2 : Hp), H p = none → Ex H H2 → H2 p = some o → Q (.ref p) H2) : New H o Q := h
theorem w_test {Q : Bool → Hp → Prop} (h : te σ H fun x H1 => ∃ k, x = .bl k ∧ Q k H1) : tTest te σ H Q := h
theorem w_tB {Q : Bool → Hp → Prop} (h : te σ H fun x H1 => ∃ k, x = .bl k ∧ Q k H1) : tB te σ H Q := h
theorem w_blk {P : Bool → Prop} {b : Bool} (h : P b) : ∃ k, V.bl b = V.bl k ∧ P k := ⟨b, rfl, h⟩
theorem w_and {tu : TT} {Q : Bool → Hp → Prop} (h : tt σ H fun c H1 => if c = true then tu σ H1 Q else Q false H1) : tAnd tt tu σ H Q := h
theorem w_or {tu : TT} {Q : Bool → Hp → Prop} (h : tt σ H fun c H1 => if c = true then Q true H1 else tu σ H1 Q) : tOr tt tu σ H Q := h
theorem w_not {Q : Bool → Hp → Prop} (h : tt σ H fun c H1 => Q (!c) H1) : tNot tt σ H Q := h
theorem w_andV (h : ta σ H fun x H1 => ∃ c, x = .bl c ∧ if c = true then tb σ H1 Q else Q (.bl false) H1) : tAndV ta tb σ H Q := h
theorem w_orV (h : ta σ H fun x H1 => ∃ c, x = .bl c ∧ if c = true then Q (.bl true) H1 else tb σ H1 Q) : tOrV ta tb σ H Q := h
theorem w_notV (h : ta σ H fun x H1 => ∃ c, x = .bl c ∧ Q (.bl (!c)) H1) : tNotV ta σ H Q := h
theorem w_chain {r r' : R2} {tc : TE} (h : ta σ H fun x H1 => tb σ H1 fun y H2 => r x y H2 fun z H3 => ∃ k, z = .bl k ∧ (if k = true then tc σ H3 fun w' H4 => r' y w' H4 Q else Q (.bl false) H3)) : tChain r r' ta tb tc σ H Q := h
section
variable {A B P : Prop} [Decidable P] {c d : Bool}
theorem w_iteD (h1 : P → A) (h2 : ¬ P → B) : if decide P = true then A else B := by
  by_cases h : P
  · simp [h]; exact h1 h
  · simp [h]; exact h2 h
theorem w_iteN (h1 : ¬ P → A) (h2 : P → B) : if (!decide P) = true then A else B := by
  by_cases h : P
  · simp [h]; exact h2 h
  · simp [h]; exact h1 h
theorem w_iteB (h1 : c = true → A) (h2 : c = false → B) : if c = true then A else B := by
  cases c
  · simp; exact h2 rfl
  · simp; exact h1 rfl
theorem w_iteT (h : c = true) (k : A) : if c = true then A else B := by rw [if_pos h]; exact k
theorem w_iteF (h : c = false) (k : B) : if c = true then A else B := by rw [if_neg (by rw [h]; decide)]; exact k
end
theorem w_addI (h : Q (.int (i + j)) H) : rAddU (.int i) (.int j) H Q := .inl ⟨i, j, rfl, rfl, h⟩
theorem w_addT (hl : a.length + b.length ≤ sizeLine) (h : Q (Tx (a ++ b)) H) : rAddU (Tx a) (Tx b) H Q := .inr (.inl ⟨a, b, rfl, rfl, hl, h⟩)
theorem w_addL {q : Addr} (h1 : H p = some (.lst xs)) (h2 : H q = some (.lst ys)) (hl : xs.length + ys.length ≤ sizeLine) (h : New H (.lst (xs ++ ys)) Q) : rAddU (.ref p) (.ref q) H Q :=
  .inr (.inr (.inl ⟨p, q, xs, ys, rfl, rfl, h1, h2, hl, h⟩))
theorem w_addU {q : Addr} (h1 : H p = some (.tup xs)) (h2 : H q = some (.tup ys)) (hl : xs.length + ys.length ≤ sizeLine) (h : ∀ (p : Addr) (H2 : Hp), Ex H H2 → H2 p = some (.tup (xs ++ ys)) → Q (.ref p) H2) : rAddU (.ref p) (.ref q) H Q :=
  .inr (.inr (.inr ⟨p, q, xs, ys, rfl, rfl, h1, h2, hl, h⟩))
theorem w_I0 {g : Int → Int → V} (h : Q (g i j) H) : rI0 g (.int i) (.int j) H Q := ⟨i, j, rfl, rfl, h⟩
theorem w_I {C : Int → Int → Prop} {g : Int → Int → V} (hc : C i j) (h : Q (g i j) H) : rI C g (.int i) (.int j) H Q := ⟨i, j, rfl, rfl, hc, h⟩
theorem w_ltI (h : Q (.bl (decide (i < j))) H) : rLtU (.int i) (.int j) H Q := .inl ⟨i, j, rfl, rfl, h⟩
theorem w_ltT (h : Q (.bl (decide (a < b))) H) : rLtU (Tx a) (Tx b) H Q := .inr ⟨a, b, rfl, rfl, h⟩
theorem w_gtI (h : Q (.bl (decide (j < i))) H) : rGtU (.int i) (.int j) H Q := .inl ⟨i, j, rfl, rfl, h⟩
theorem w_gtT (h : Q (.bl (decide (b < a))) H) : rGtU (Tx a) (Tx b) H Q := .inr ⟨a, b, rfl, rfl, h⟩
theorem w_leI (h : Q (.bl (decide (i ≤ j))) H) : rLeU (.int i) (.int j) H Q := .inl ⟨i, j, rfl, rfl, h⟩
theorem w_leT (h : Q (.bl (!decide (b < a))) H) : rLeU (Tx a) (Tx b) H Q := .inr ⟨a, b, rfl, rfl, h⟩
theorem w_geI (h : Q (.bl (decide (j ≤ i))) H) : rGeU (.int i) (.int j) H Q := .inl ⟨i, j, rfl, rfl, h⟩
theorem w_geT (h : Q (.bl (!decide (a < b))) H) : rGeU (Tx a) (Tx b) H Q := .inr ⟨a, b, rfl, rfl, h⟩
theorem w_eqI (h : Q (.bl (decide (i = j))) H) : rEqU K (.int i) (.int j) H Q := .inl ⟨i, j, rfl, rfl, h⟩
theorem w_eqT (h : Q (.bl (decide (a = b))) H) : rEqU K (Tx a) (Tx b) H Q := .inr (.inl ⟨a, b, rfl, rfl, h⟩)
theorem w_eqC {c d : Nat} (h : Q (.bl (decide (c = d))) H) : rEqU K (Tx [c]) (Tx [d]) H Q := w_eqT (by
  have e : decide ([c] = [d]) = decide (c = d) := by by_cases q : c = d <;> simp [q]
  rw [e]; exact h)
theorem w_eqS (hs : scal x y = true) (h : Q (.bl (decide (x = y))) H) : rEqU K x y H Q := .inr (.inr (.inl ⟨hs, h⟩))
theorem w_eqD {d e : PyData} (h1 : Rp H x d) (h2 : Rp H y e) (s1 : SeqAt.shaped d = true) (s2 : SeqAt.shaped e = true) (h : Q (.bl (PyData.eqv d e)) H) : rEqU K x y H Q := .inr (.inr (.inr ⟨d, e, h1.dp, h2.dp, s1, s2, h⟩))
theorem w_neI (h : Q (.bl (!decide (i = j))) H) : rNeU K (.int i) (.int j) H Q := .inl ⟨i, j, rfl, rfl, h⟩
theorem w_neT (h : Q (.bl (!decide (a = b))) H) : rNeU K (Tx a) (Tx b) H Q := .inr (.inl ⟨a, b, rfl, rfl, h⟩)
theorem w_neC {c d : Nat} (h : Q (.bl (!decide (c = d))) H) : rNeU K (Tx [c]) (Tx [d]) H Q := w_neT (by
  have e : decide ([c] = [d]) = decide (c = d) := by by_cases q : c = d <;> simp [q]
  rw [e]; exact h)
theorem lt_one (c d : Nat) : decide ([c] < [d]) = decide (c < d) := by
  have e : ([c] < [d]) ↔ c < d := by
    rw [List.cons_lt_cons_iff]
    simp
  simp only [e]
theorem w_ltC {c d : Nat} (h : Q (.bl (decide (c < d))) H) : rLtU (Tx [c]) (Tx [d]) H Q := w_ltT (by rw [lt_one]; exact h)
theorem w_gtC {c d : Nat} (h : Q (.bl (decide (d < c))) H) : rGtU (Tx [c]) (Tx [d]) H Q := w_gtT (by rw [lt_one]; exact h)
theorem w_leC {c d : Nat} (h : Q (.bl (decide (c ≤ d))) H) : rLeU (Tx [c]) (Tx [d]) H Q := w_leT (by
  have e : (!decide (d < c)) = decide (c ≤ d) := by by_cases q : d < c <;> simp [q] <;> omega
  rw [lt_one, e]; exact h)
theorem w_geC {c d : Nat} (h : Q (.bl (decide (d ≤ c))) H) : rGeU (Tx [c]) (Tx [d]) H Q := w_geT (by
  have e : (!decide (c < d)) = decide (d ≤ c) := by by_cases q : c < d <;> simp [q] <;> omega
  rw [lt_one, e]; exact h)
theorem w_neS (hs : scal x y = true) (h : Q (.bl (!decide (x = y))) H) : rNeU K x y H Q := .inr (.inr (.inl ⟨hs, h⟩))
theorem w_neD {d e : PyData} (h1 : Rp H x d) (h2 : Rp H y e) (s1 : SeqAt.shaped d = true) (s2 : SeqAt.shaped e = true) (h : Q (.bl (!PyData.eqv d e)) H) : rNeU K x y H Q := .inr (.inr (.inr ⟨d, e, h1.dp, h2.dp, s1, s2, h⟩))
theorem w_inS {c : Nat} (h : Q (.bl (decide (c ∈ l))) H) : rInU K (Tx [c]) (Tx l) H Q := .inl ⟨c, l, rfl, rfl, h⟩
theorem w_notInS {c : Nat} (h : Q (.bl (!decide (c ∈ l))) H) : rNotInU K (Tx [c]) (Tx l) H Q := .inl ⟨c, l, rfl, rfl, h⟩
theorem w_ixX (hl : l.length ≤ sizeLine) (h0 : 0 ≤ i) (h1 : i < (l.length : Int)) (h : ∀ c, l[i.toNat]? = some c → Q (Tx [c]) H) : rIxU K (Tx l) (.int i) H Q := by
  obtain ⟨k, rfl⟩ : ∃ k : Nat, i = k := ⟨i.toNat, by omega⟩
  have hk : k < l.length := by omega
  exact .inl ⟨l, _, l[k], rfl, rfl, hl, atI_nat (by simp [hk]), h _ (by simp [hk])⟩
theorem w_ixL (hp : H p = some (.lst xs)) (h0 : 0 ≤ i) (h1 : i < (xs.length : Int)) (h : ∀ v, xs[i.toNat]? = some v → Q v H) : rIxU K (.ref p) (.int i) H Q := by
  obtain ⟨k, rfl⟩ : ∃ k : Nat, i = k := ⟨i.toNat, by omega⟩
  have hk : k < xs.length := by omega
  exact .inr (.inr ⟨p, xs, _, xs[k], rfl, rfl, SqL.of hp, atI_nat (by simp [hk]), h _ (by simp [hk])⟩)
theorem w_ixU (hp : Rd H p (.tup xs)) (h0 : 0 ≤ i) (h1 : i < (xs.length : Int)) (h : ∀ v, xs[i.toNat]? = some v → Q v H) : rIxU K (.ref p) (.int i) H Q := by
  obtain ⟨k, rfl⟩ : ∃ k : Nat, i = k := ⟨i.toNat, by omega⟩
  have hk : k < xs.length := by omega
  exact .inr (.inl ⟨p, xs, _, xs[k], rfl, rfl, (.inl hp), atI_nat (by simp [hk]), h _ (by simp [hk])⟩)
theorem w_slX {lo hi : Option Int} (hl : l.length ≤ sizeLine) (h : Q (Tx (cutL l lo hi)) H) : rSlU (Tx l) lo hi H Q := .inl ⟨l, rfl, hl, h⟩
theorem w_slL {lo hi : Option Int} (hp : H p = some (.lst xs)) (h : New H (.lst (cutL xs lo hi)) Q) : rSlU (.ref p) lo hi H Q := .inr (.inl ⟨p, xs, rfl, hp, h⟩)
theorem w_slU {lo hi : Option Int} (hp : H p = some (.tup xs)) (h : ∀ (p : Addr) (H2 : Hp), Ex H H2 → H2 p = some (.tup (cutL xs lo hi)) → Q (.ref p) H2) : rSlU (.ref p) lo hi H Q := .inr (.inr ⟨p, xs, rfl, hp, h⟩)
theorem w_lenX (hl : l.length ≤ sizeLine) (h : Q (.int (l.length : Int)) H) : rLenU K [Tx l] H Q := .inl ⟨l, rfl, hl, h⟩
theorem w_lenL (hp : H p = some (.lst xs)) (h : Q (.int (xs.length : Int)) H) : rLenU K [.ref p] H Q := .inr ⟨p, xs, rfl, .inl (SqL.of hp), h⟩
theorem w_lenU (hp : Rd H p (.tup xs)) (h : Q (.int (xs.length : Int)) H) : rLenU K [.ref p] H Q := .inr ⟨p, xs, rfl, .inr ((.inl hp)), h⟩
theorem w_listX (hl : l.length ≤ sizeLine) (h : New H (.lst (l.map fun c => Tx [c])) Q) : rListU K [Tx l] H Q := .inl ⟨l, rfl, hl, h⟩
theorem w_listL (hp : H p = some (.lst xs)) (h : New H (.lst xs) Q) : rListU K [.ref p] H Q := .inr ⟨p, xs, rfl, .inl (SqL.of hp), h⟩
theorem w_listU (hp : Rd H p (.tup xs)) (h : New H (.lst xs) Q) : rListU K [.ref p] H Q := .inr ⟨p, xs, rfl, .inr ((.inl hp)), h⟩
theorem w_all {bs : List Bool} (hp : H p = some (.lst (bs.map V.bl))) (h : Q (.bl (bs.all id)) H) : rAll K [.ref p] H Q := ⟨p, bs, rfl, SqL.of hp, h⟩
theorem w_is {n t : String} (ht : Tg H x t) (hn : n ∈ ["int", "bool", "str", "tuple", "list"]) (h : Q (.bl (isiB t n)) H) : rIsU [x, .ty n] H Q := ⟨x, t, n, rfl, ht, hn, h⟩
theorem w_bm {T : String} {r : V → List V → Hp → VK → Prop} {ta : TA} (h : te σ H fun x H1 => tyV K T x H1 ∧ ta σ H1 fun xs H2 => r x xs H2 Q) : tBM K T r te ta σ H Q := h
theorem w_bm0 {T : String} {r : V → List V → Hp → VK → Prop} (h : te σ H fun x H1 => tyV K T x H1 ∧ r x [] H1 Q) : tBM0 K T r te σ H Q := h
theorem ty_str {z : Str} : tyV K "str" (.str z) H := rfl
theorem ty_lst (h : H p = some (.lst xs)) : tyV K "list" (.ref p) H := .inl ⟨rfl, xs, SqL.of h⟩
theorem w_join {ls : List (List Nat)} (hp : H p = some (.lst (ls.map fun l => Tx l))) (hz : (ls.map (·.length)).sum + ls.length * a.length ≤ 16777216) (h : Q (Tx (TL.joinL a ls)) H) : rJoinX K (Tx a) [.ref p] H Q := ⟨a, p, ls, rfl, rfl, .inl (SqL.of hp), hz, h⟩
/-- all but l is as it was -/
def ExB (l : Addr) (H H' : Hp) : Prop := ∀ b o, b ≠ l → H b = some o → H' b = some o
theorem ExB.upd {l : Addr} {o : HO} : ExB l H (upd H l o) := fun b u hb h => by rw [upd_ne hb]; exact h
theorem Ex.but {H0 : Hp} {l : Addr} (e : Ex H0 H) (b : ExB l H H') (h : H0 l = none) : Ex H0 H' := fun c o hc => b c o (ne_of_none hc h) (e c o hc)
theorem w_app {m : Addr} (hp : H m = some (.lst xs)) (hl : xs.length < sizeLine) (h : ∀ H2, ExB m H H2 → H2 m = some (.lst (xs ++ [v])) → Q .non H2) : rAppend (.ref m) [v] H Q := ⟨m, xs, v, rfl, rfl, hp, hl, h _ ExB.upd upd_same⟩
theorem w_popAt {m : Addr} {k : Nat} (hp : H m = some (.lst xs)) (hk : k < xs.length) (hs : xs.length < 2 ^ 62) (h : ∀ H2 v, xs[k]? = some v → ExB m H H2 → H2 m = some (.lst (xs.eraseIdx k)) → Q v H2) : rPopAt (.ref m) [.int (k : Int)] H Q := by
  refine ⟨m, xs, _, k, xs[k], rfl, rfl, hp, by omega, by omega, ?_, by simp [hk], h _ _ (by simp [hk]) ExB.upd upd_same⟩
  exact (ixN_seq (by unfold ixN; rw [if_pos (by omega), if_pos (by omega)]; simp)).1
theorem w_setL {m : Addr} {Q : Hp → Prop} (hp : H m = some (.lst xs)) (h0 : 0 ≤ i) (h1 : i < (xs.length : Int)) (h : ∀ H2, ExB m H H2 → H2 m = some (.lst (xs.set i.toNat v)) → Q H2) : rSetL (.ref m) (.int i) v H Q := by
  refine ⟨m, xs, i, i.toNat, rfl, rfl, hp, ?_, h _ ExB.upd upd_same⟩
  unfold ixN
  rw [if_pos h0, if_pos h1]
theorem w_gsub {to ti : TE} {t : TSet} {Q : L2.St → Hp → Prop} (h : to σ H fun o H1 => ti σ H1 fun i H2 => t o i v H2 fun H3 => Q σ H3) : gSub to ti t v σ H Q := h
end
end Lt
namespace Lt
open PySem PySem.Spec PyProof.Rows L2 Evl
open SX (S)
theorem take_more {α : Type} {l : List α} {i : Nat} {x : α} (h : l[i]? = some x) : l.take (i + 1) = l.take i ++ [x] := by
  rw [List.take_add_one, h]; rfl
theorem range_more (i : Nat) : List.range (i + 1) = List.range i ++ [i] := List.range_succ
theorem w_tyL {K : PySem.W.Frag} {H : Hp} {p : Addr} {xs : List V} {A : Prop} (hp : H p = some (.lst xs)) (k : A) : tyV K "list" (.ref p) H ∧ A := ⟨ty_lst hp, k⟩
theorem w_tyS {K : PySem.W.Frag} {H : Hp} {z : Str} {A : Prop} (k : A) : tyV K "str" (.str z) H ∧ A := ⟨rfl, k⟩
theorem w_int1 {P : Int → Prop} {i : Int} (h : P i) : ∃ i', [V.int i] = [V.int i'] ∧ P i' := ⟨i, rfl, h⟩
theorem w_callN {σ : L2.St} {H : Hp} {Q : VK} {sp : Sp} {E : XK} {ta : TA} (h : ta σ H fun vs H1 => sp vs H1 Q E) : tCall sp [] E ta σ H Q := by
  have e : (fun (vs : List V) (H1 : Hp) => sp (vs ++ []) H1 Q E) = fun vs H1 => sp vs H1 Q E := by funext vs H1; rw [List.append_nil]
  show ta σ H fun vs H1 => sp (vs ++ []) H1 Q E
  rw [e]; exact h
def tCutE (t : TE) : TE := fun σ H Q => ∃ R : VK, t σ H R ∧ ∀ v H', R v H' → Q v H'
def tCutT (t : TT) : TT := fun σ H Q => ∃ R : Bool → Hp → Prop, t σ H R ∧ ∀ b H', R b H' → Q b H'
def tCutS (t : TS) : TS := fun D σ H => ∃ R : L2.St → Hp → Prop, t { D with nx := R } σ H ∧ ∀ σ' H', R σ' H' → D.nx σ' H'
section
variable {X : Cx}
theorem pe_cut {e : Expr} {t : TE} (h : PE X e t) : PE X e (tCutE t) := ⟨fun pins s σ H Q I ⟨R, q, w⟩ => thn (h.run pins s σ H R I q) fun _ _ ⟨v, H', I', r, z⟩ => ⟨v, H', I', r, w v H' z⟩⟩
theorem pt_cut {e : Expr} {t : TT} (h : PT X e t) : PT X e (tCutT t) := ⟨fun pins s σ H Q I ⟨R, q, w⟩ => thn (h.run pins s σ H R I q) fun _ _ ⟨H', I', z⟩ => ⟨H', I', w _ H' z⟩⟩
theorem pts_cut {es : List Expr} {t : TT} (h : PTs X es t) : PTs X es (tCutT t) := ⟨fun pins s σ H Q I ⟨R, q, w⟩ => thn (h.run pins s σ H R I q) fun _ _ ⟨H', I', z⟩ => ⟨H', I', w _ H' z⟩⟩
theorem ps_cut {st : Stmt} {t : TS} (h : PS X st t) : PS X st (tCutS t) := ⟨fun pins s σ H D I ⟨R, q, w⟩ => thn (h.run pins s σ H { D with nx := R } I q) fun f _ z => by
  cases f with
  | next => obtain ⟨σ', H', I', z⟩ := z; exact ⟨σ', H', I', w _ _ z⟩
  | brk => exact z
  | cont => exact z
  | ret u => exact z⟩
end
section
variable {σ : L2.St} {H H' : Hp} {D : Ends} {Q : VK} {K : PySem.W.Frag}
theorem w_cutE {t : TE} (R : VK) (h : t σ H R) (k : ∀ v H', R v H' → Q v H') : tCutE t σ H Q := ⟨R, h, k⟩
theorem w_cutT {t : TT} {Q : Bool → Hp → Prop} (R : Bool → Hp → Prop) (h : t σ H R) (k : ∀ b H', R b H' → Q b H') : tCutT t σ H Q := ⟨R, h, k⟩
/-- no cut is wanted -/
theorem w_cutE0 {t : TE} (h : t σ H Q) : tCutE t σ H Q := ⟨Q, h, fun _ _ z => z⟩
theorem w_cutT0 {t : TT} {Q : Bool → Hp → Prop} (h : t σ H Q) : tCutT t σ H Q := ⟨Q, h, fun _ _ z => z⟩
theorem w_cutS0 {t : TS} (h : t D σ H) : tCutS t D σ H := ⟨D.nx, h, fun _ _ z => z⟩
/-- a test's answer by a Bool; a value -/
theorem w_cutB {t : TT} {Q : Bool → Hp → Prop} (c : Bool) (h : t σ H fun b H1 => b = c ∧ H1 = H) (k : Q c H) : tCutT t σ H Q := ⟨_, h, fun _ _ ⟨e1, e2⟩ => by rw [e1, e2]; exact k⟩
theorem w_cutV {t : TE} (v : V) (h : t σ H fun x H1 => x = v ∧ H1 = H) (k : Q v H) : tCutE t σ H Q := ⟨_, h, fun _ _ ⟨e1, e2⟩ => by rw [e1, e2]; exact k⟩
/-- while: an invariant told by a measure -/
theorem w_while {c : TT} {tb : TS} (W : Nat → L2.St → Hp → Prop) (m : Nat) (h0 : W m σ H)
    (hs : ∀ m σ H, W m σ H → c σ H fun b H1 => if b = true then tb { D with nx := fun σ' H' => ∃ m', m' < m ∧ W m' σ' H', ct := fun σ' H' => ∃ m', m' < m ∧ W m' σ' H', bk := D.nx } σ H1 else D.nx σ H1) : tWhile (tCutT c) tb D σ H :=
  ⟨W, ⟨m, h0⟩, fun m σ H w => ⟨_, hs m σ H w, fun b H1 z => by
    cases b with
    | true => exact ⟨_, fun _ _ q => q, z⟩
    | false => exact z⟩⟩
def AnyR (K : PySem.W.Frag) (v : V) (H : Hp) (R : It → Hp → Prop) : Prop := (∃ l, v = Tx l ∧ R (Itx l) H) ∨ (∃ a xs, v = .ref a ∧ SqT K H a xs ∧ R (Itt K a) H) ∨ (∃ a xs, v = .ref a ∧ SqL K H a xs ∧ R (Itl K a) H)
theorem w_iany {te : TE} {R : It → Hp → Prop} (h : te σ H fun v H1 => AnyR K v H1 R) : iAny K te σ H R := h
theorem w_anyX {l : List Nat} {R : It → Hp → Prop} (h : R (Itx l) H) : AnyR K (Tx l) H R := .inl ⟨l, rfl, h⟩
theorem w_anyU {p : Addr} {xs : List V} {R : It → Hp → Prop} (hp : Rd H p (.tup xs)) (h : R (Itt K p) H) : AnyR K (.ref p) H R := .inr (.inl ⟨p, xs, rfl, .inl hp, h⟩)
theorem w_anyL {p : Addr} {xs : List V} {R : It → Hp → Prop} (hp : H p = some (.lst xs)) (h : R (Itl K p) H) : AnyR K (.ref p) H R := .inr (.inr ⟨p, xs, rfl, SqL.of hp, h⟩)
theorem w_anyK {p : Addr} {xs : List V} {R : It → Hp → Prop} (hp : SqL K H p xs) (h : R (Itl K p) H) : AnyR K (.ref p) H R := .inr (.inr ⟨p, xs, rfl, hp, h⟩)
theorem w_rng1 {ta : TA} {R : It → Hp → Prop} (h : ta σ H fun vs H1 => ∃ j : Int, vs = [.int j] ∧ -(2 ^ 62) ≤ j ∧ j < 2 ^ 62 ∧ R (Itr 0 j.toNat) H1) : iRng1 ta σ H R := h
theorem w_rng1k {j : Int} {P : Int → Prop} (h1 : -(2 ^ 62) ≤ j ∧ j < 2 ^ 62) (h : P j) : ∃ j' : Int, [V.int j] = [V.int j'] ∧ -(2 ^ 62) ≤ j' ∧ j' < 2 ^ 62 ∧ P j' := ⟨j, rfl, h1.1, h1.2, h⟩
theorem w_rng2 {ta : TA} {R : It → Hp → Prop} (h : ta σ H fun vs H1 => ∃ i j : Int, vs = [.int i, .int j] ∧ (-(2 ^ 62) ≤ i ∧ i < 2 ^ 62 ∧ -(2 ^ 62) ≤ j ∧ j < 2 ^ 62) ∧ R (Itr i (j - i).toNat) H1) : iRng2 ta σ H R := h
theorem w_rng2k {i j : Int} {P : Int → Int → Prop} (h1 : -(2 ^ 62) ≤ i ∧ i < 2 ^ 62 ∧ -(2 ^ 62) ≤ j ∧ j < 2 ^ 62) (h : P i j) :
    ∃ i' j' : Int, [V.int i, V.int j] = [V.int i', V.int j'] ∧ (-(2 ^ 62) ≤ i' ∧ i' < 2 ^ 62 ∧ -(2 ^ 62) ≤ j' ∧ j' < 2 ^ 62) ∧ P i' j' := ⟨i, j, rfl, h1, h⟩
theorem w_enumX {ta : TA} {R : It → Hp → Prop} (h : ta σ H fun vs H1 => ∃ l, vs = [Tx l] ∧ R (Itex l) H1) : iEnumX ta σ H R := h
theorem w_enumXk {l : List Nat} {P : List Nat → Prop} (h : P l) : ∃ l', [Tx l] = [Tx l'] ∧ P l' := ⟨l, rfl, h⟩
theorem w_zipX {ta : TA} {R : It → Hp → Prop} (h : ta σ H fun vs H1 => ∃ l m, vs = [Tx l, Tx m] ∧ R (Itzx l m) H1) : iZipX ta σ H R := h
theorem w_zipXk {l m : List Nat} {P : List Nat → List Nat → Prop} (h : P l m) : ∃ l' m', [Tx l, Tx m] = [Tx l', Tx m'] ∧ P l' m' := ⟨l, m, rfl, h⟩
theorem w_enumL {ta : TA} {R : It → Hp → Prop} (h : ta σ H fun vs H1 => ∃ a xs, vs = [.ref a] ∧ SqL K H1 a xs ∧ R (Ite K a) H1) : iEnum K ta σ H R := h
theorem w_enumLk {p : Addr} {xs : List V} {P : Addr → Prop} (hp : H p = some (.lst xs)) (h : P p) : ∃ a xs, [V.ref p] = [V.ref a] ∧ SqL K H a xs ∧ P a := ⟨p, xs, rfl, SqL.of hp, h⟩
theorem w_zipL {ta : TA} {R : It → Hp → Prop} (h : ta σ H fun vs H1 => ∃ a b xs ys, vs = [.ref a, .ref b] ∧ SqL K H1 a xs ∧ SqL K H1 b ys ∧ R (Itz K a b) H1) : iZip K ta σ H R := h
theorem w_zipLk {p q : Addr} {xs ys : List V} {P : Addr → Addr → Prop} (hp : H p = some (.lst xs)) (hq : H q = some (.lst ys)) (h : P p q) : ∃ a b xs ys, [V.ref p, V.ref q] = [V.ref a, V.ref b] ∧ SqL K H a xs ∧ SqL K H b ys ∧ P a b :=
  ⟨p, q, xs, ys, rfl, SqL.of hp, SqL.of hq, h⟩
def ForX (J : It) (g : TG) (tb : TS) (D : Ends) (σ : L2.St) (H : Hp) : Prop := ∃ W : Nat → Nat → L2.St → Hp → Prop, (∃ m, W 0 m σ H) ∧ ∀ i m σ H, W i m σ H →
      (J.stop i H ∧ D.nx σ H) ∨ (J.go i H ∧ ∃ N : L2.St → Hp → Prop, (∀ σ' H', N σ' H' → ∃ m', m' < m ∧ W (i + 1) m' σ' H') ∧ ∀ x H', J.yld i H x H' → g x σ H' fun σ2 H2 => tb { D with nx := N, ct := N, bk := D.nx } σ2 H2)
theorem w_for {wi : TI} {g : TG} {tb : TS} (h : wi σ H fun J H1 => ForX J g tb D σ H1) : tFor wi g tb D σ H := h
section
variable {g : TG} {tb : TS} {J : It} {n : Nat} {G : Hp → Prop} {Y : Nat → Hp → V → Hp → Prop}
theorem forX_it (w : Walk J n G Y) (Pv : Nat → L2.St → Hp → Prop) (h0 : Pv 0 σ H) (hG : ∀ i σ H, i ≤ n → Pv i σ H → G H)
    (hs : ∀ i x σ H H', i < n → Pv i σ H → Y i H x H' → g x σ H' fun σ2 H2 => tb { D with nx := Pv (i + 1), ct := Pv (i + 1), bk := D.nx } σ2 H2) (hd : ∀ σ H, Pv n σ H → D.nx σ H) : ForX J g tb D σ H := for_it w Pv h0 hG hs hd
theorem forX_list {p : Addr} {xs : List V} (Pv : Nat → L2.St → Hp → Prop) (h0 : Pv 0 σ H) (hG : ∀ i σ H, i ≤ xs.length → Pv i σ H → SqL K H p xs)
    (hs : ∀ i x σ H, xs[i]? = some x → Pv i σ H → g x σ H fun σ2 H2 => tb { D with nx := Pv (i + 1), ct := Pv (i + 1), bk := D.nx } σ2 H2) (hd : ∀ σ H, Pv xs.length σ H → D.nx σ H) : ForX (Itl K p) g tb D σ H :=
  forX_it walk_list Pv h0 hG (fun i x σ H H' _ p ⟨e, ex⟩ => by subst e; exact hs i x σ _ ex p) hd
theorem forX_range {lo : Int} (Pv : Nat → L2.St → Hp → Prop) (h0 : Pv 0 σ H)
    (hs : ∀ (i : Nat) σ H, i < n → Pv i σ H → g (.int (lo + i)) σ H fun σ2 H2 => tb { D with nx := Pv (i + 1), ct := Pv (i + 1), bk := D.nx } σ2 H2) (hd : ∀ σ H, Pv n σ H → D.nx σ H) : ForX (Itr lo n) g tb D σ H :=
  forX_it walk_range Pv h0 (fun _ _ _ _ _ => trivial) (fun i x σ H H' hi p ⟨e, ex⟩ => by subst e ex; exact hs i σ _ hi p) hd
theorem forX_range0 (Pv : Nat → L2.St → Hp → Prop) (h0 : Pv 0 σ H)
    (hs : ∀ (i : Nat) σ H, i < n → Pv i σ H → g (.int (i : Int)) σ H fun σ2 H2 => tb { D with nx := Pv (i + 1), ct := Pv (i + 1), bk := D.nx } σ2 H2) (hd : ∀ σ H, Pv n σ H → D.nx σ H) : ForX (Itr 0 n) g tb D σ H :=
  forX_range Pv h0 (fun i σ H hi p => by rw [Int.zero_add]; exact hs i σ H hi p) hd
end
def LcX (J : It) (g : TG) (tt : TT) (te : TE) (vs : List Nat) (σ : L2.St) (H1 : Hp) (Q : VK) : Prop := ∀ D, H1 D = none → ∃ W : Nat → Nat → Hp → Prop, (∃ m, W 0 m (upd H1 D (.lst []))) ∧ ∀ i m H, W i m H →
  (J.stop i H ∧ Q (.ref D) H) ∨ (J.go i H ∧ ∃ Nx : Hp → Prop, (∀ H', Nx H' → ∃ m', m' < m ∧ W (i + 1) m' H') ∧ ∀ x H', J.yld i H x H' → g x (wipe σ vs) H' fun σ2 H2 => wipe σ2 vs = wipe σ vs ∧ tt σ2 H2 fun b H3 =>
    if b = true then te σ2 H3 fun y H4 => ∃ acc, H4 D = some (.lst acc) ∧ acc.length < sizeLine ∧ Nx (upd H4 D (.lst (acc ++ [y]))) else Nx H3)
theorem w_lc {wi : TI} {g : TG} {tt : TT} {te : TE} {vs : List Nat} (h : wi σ H fun J H1 => LcX J g tt te vs σ H1 Q) : tLc wi g tt te vs σ H Q := h
/-- a turn of a comprehension: the answer of the test, the item's datum -/
def LcStep (H1 : Hp) (d0 : List PyData) (G1 : List PyData → Prop) (tt : TT) (te : TE) (σ2 : L2.St) (H2 : Hp) : Prop :=
  tt σ2 H2 fun b H3 => if b = true then te σ2 H3 fun y H4 => Ex H1 H4 ∧ ∃ d, flatD d = true ∧ Rp H4 y d ∧ G1 (d0 ++ [d]) else Ex H1 H3 ∧ G1 d0
def LcInv (H : Hp) (D : Addr) (ds : List PyData) (n : Nat) (H' : Hp) : Prop := ∃ acc, H D = none ∧ Ex H H' ∧ H' D = some (.lst acc) ∧ RpAll H' acc ds ∧ flatDs ds = true ∧ acc.length ≤ n
theorem flatDs_append : ∀ {ds : List PyData} {d : PyData}, flatDs ds = true → flatD d = true → flatDs (ds ++ [d]) = true
  | [], d, _, h => by simp [flatDs, h]
  | e :: ds, d, h, h' => by
    have h2 : flatD e = true ∧ flatDs ds = true := by simpa [flatDs] using h
    show (flatD e && flatDs (ds ++ [d])) = true
    rw [h2.1, flatDs_append h2.2 h']; rfl
theorem lc_grow {H H5 : Hp} {D : Addr} {acc : List V} {y : V} {ds : List PyData} {d : PyData} {n : Nat} (h1 : H D = none) (h2 : Ex H H5) (h3 : H5 D = some (.lst acc)) (h4 : RpAll H5 acc ds) (h5 : flatDs ds = true) (h6 : acc.length ≤ n) (hy : Rp H5 y d) (hf : flatD d = true) :
    LcInv H D (ds ++ [d]) (n + 1) (upd H5 D (.lst (acc ++ [y]))) := by
  have et : ∀ b xs, Rd H5 b (.tup xs) → Rd (upd H5 D (.lst (acc ++ [y]))) b (.tup xs) := fun b xs hb => by
    rcases hb with hb | ⟨o, hb⟩
    · exact .inl (by rw [upd_ne (ne_of hb h3 (by intro q; cases q))]; exact hb)
    · exact .inr ⟨o, by rw [upd_ne (ne_of hb h3 (by intro q; cases q))]; exact hb⟩
  refine ⟨acc ++ [y], h1, Ex.mut h2 h1, upd_same, (RpAll.exT et h5 h4).append (.one (Rp.exT et hf hy)), flatDs_append h5 hf, ?_⟩
  rw [List.length_append, List.length_singleton]; omega
section
variable {tt : TT} {te : TE} {J : It} {n : Nat} {G : Hp → Prop} {Y : Nat → Hp → V → Hp → Prop} {vs : List Nat}
theorem lcX_core {g : TG} {j : V → L2.St → L2.St} (hg : ∀ v σ H k, g v σ H k ↔ k (j v σ) H) (w : Walk J n G Y) (hz : n ≤ 100000) (Good : Nat → List PyData → Prop) (h0 : Good 0 []) (hG : ∀ H', Ex H H' → G H')
    (hs : ∀ i x H1 H2 d0, i < n → Ex H H1 → Good i d0 → Y i H1 x H2 → wipe (j x (wipe σ vs)) vs = wipe σ vs ∧ LcStep H1 d0 (Good (i + 1)) tt te (j x (wipe σ vs)) H2)
    (hd : ∀ p H2 acc ds, H p = none → Ex H H2 → H2 p = some (.lst acc) → RpAll H2 acc ds → Good n ds → acc.length ≤ n → Q (.ref p) H2) : LcX J g (tCutT tt) (tCutE te) vs σ H Q := by
  intro D hD
  refine lc_it (n := n) w (fun i H' => ∃ ds, Good i ds ∧ LcInv H D ds i H') ⟨[], h0, [], hD, Ex.new hD, upd_same, .nil, rfl, Nat.le_refl _⟩ (fun i H' _ ⟨_, _, _, _, e, _⟩ => hG H' e) (fun i x H1 H2 hi inv hY => ?_) (fun H' ⟨ds, gd, acc, _, e, h3, h4, _, h6⟩ => hd D H' acc ds hD e h3 h4 gd h6)
  obtain ⟨ds, gd, acc, _, e, h3, h4, h5, h6⟩ := inv
  obtain ⟨q1, q2⟩ := hs i x H1 H2 ds hi e gd hY
  rw [hg]
  refine ⟨q1, _, q2, fun b H3 z => ?_⟩
  cases b with
  | true =>
    simp only [if_true] at z ⊢
    refine ⟨_, z, fun y H4 ⟨e4, d, hf, hy, ed⟩ => ⟨acc, e4 _ _ h3, Nat.lt_of_le_of_lt (Nat.le_trans h6 (Nat.le_trans (Nat.le_of_lt hi) hz)) (by decide), _, ed, ?_⟩⟩
    exact lc_grow hD (e.trans e4) (e4 _ _ h3) (RpAll.ex e4 h4) h5 h6 hy hf
  | false =>
    simp only [Bool.false_eq_true, if_false] at z ⊢
    obtain ⟨e4, ed⟩ := z
    exact ⟨_, ed, acc, hD, e.trans e4, e4 _ _ h3, RpAll.ex e4 h4, h5, Nat.le_succ_of_le h6⟩
/-- for x in ..: one name -/
theorem lcX_rel {k : Nat} (w : Walk J n G Y) (hz : n ≤ 100000) (Good : Nat → List PyData → Prop) (h0 : Good 0 []) (hG : ∀ H', Ex H H' → G H')
    (hw : ∀ v, wipe ((wipe σ vs).set k (some v)) vs = wipe σ vs)
    (hs : ∀ i x H1 H2 d0, i < n → Ex H H1 → Good i d0 → Y i H1 x H2 → LcStep H1 d0 (Good (i + 1)) tt te ((wipe σ vs).set k (some x)) H2)
    (hd : ∀ p H2 acc ds, H p = none → Ex H H2 → H2 p = some (.lst acc) → RpAll H2 acc ds → Good n ds → acc.length ≤ n → Q (.ref p) H2) : LcX J (gName k) (tCutT tt) (tCutE te) vs σ H Q :=
  lcX_core (j := fun x σ => σ.set k (some x)) (fun _ _ _ _ => Iff.rfl) w hz Good h0 hG (fun i x H1 H2 d0 hi e g y => ⟨hw x, hs i x H1 H2 d0 hi e g y⟩) hd
theorem lcX_1 {k : Nat} (w : Walk J n G Y) (hz : n ≤ 100000) (ds : Nat → List PyData) (h0 : ds 0 = []) (hG : ∀ H', Ex H H' → G H')
    (hw : ∀ v, wipe ((wipe σ vs).set k (some v)) vs = wipe σ vs)
    (hs : ∀ i x H1 H2, i < n → Ex H H1 → Y i H1 x H2 → LcStep H1 (ds i) (fun d => d = ds (i + 1)) tt te ((wipe σ vs).set k (some x)) H2)
    (hd : ∀ p H2 acc, H p = none → Ex H H2 → H2 p = some (.lst acc) → RpAll H2 acc (ds n) → acc.length ≤ n → Q (.ref p) H2) : LcX J (gName k) (tCutT tt) (tCutE te) vs σ H Q :=
  lcX_rel w hz (fun i d => d = ds i) h0.symm hG hw (fun i x H1 H2 d0 hi e g y => by subst g; exact hs i x H1 H2 hi e y) (fun p H2 acc ds' hp e h r g hl => by subst g; exact hd p H2 acc hp e h r hl)
end
theorem w_yes {Q : Bool → Hp → Prop} (h : Q true H) : tYes σ H Q := h
end
section
variable {X : Cx} {K : PySem.W.Frag}
theorem op_eqK (hK : X.K = K) (hu : X.A.units + 64 < cLine) : OpR X (compareOp .Eq) (rEqU K) := hK ▸ op_eqU hu
theorem op_neK (hK : X.K = K) (hu : X.A.units + 64 < cLine) : OpR X (compareOp .NotEq) (rNeU K) := hK ▸ op_neU hu
theorem op_inK (hK : X.K = K) : OpR X (compareOp .In) (rInU K) := hK ▸ op_inU
theorem op_notInK (hK : X.K = K) : OpR X (compareOp .NotIn) (rNotInU K) := hK ▸ op_notInU
theorem ix_K (hK : X.K = K) : IxR X (rIxU K) := hK ▸ ix_U
theorem call_lenK (hK : X.K = K) : CallR X (.builtin "len") (rLenU K) := hK ▸ call_lenU
theorem call_listK (hK : X.K = K) (hc : X.calm = true) : CallR X (.type "list") (rListU K) := hK ▸ call_listU hc
theorem mt_joinK (hK : X.K = K) : MtR X "str.join" (rJoinX K) := hK ▸ mt_joinX
theorem call_allK (hK : X.K = K) (hc : X.calm = true) : CallR X (.builtin "all") (rAll K) := hK ▸ cr_all hc
theorem pi_anyK {tg e : Expr} {te : TE} (hK : X.K = K) (he : PE X e te) : PI X tg e (iAny K te) := hK ▸ pi_any he
theorem pg_tupK {es : List Expr} {k : Nat} {t : TGs} {pos : Pos} {n : Nat} (hK : X.K = K) (hc : X.calm = true) (h : PGs X es t)
    (hn : (assignEach es X.env).length = n := by rfl) (hst : (assignEach es X.env).findIdx? (·.1) = none := by rfl) : PG X (.Tuple es k pos) (gTup K n t) := hK ▸ pg_tup hc h hn hst
theorem pe_bmK {o e : Expr} {es : List Expr} {name : Str} {apos cpos : Pos} {T id : String} {r : V → List V → Hp → VK → Prop} {to : TE} {t : TA} (hK : X.K = K) (pa : PlainAttrs T) (slot : Slot T name id) (hty : typeOf (.builtin id) = pure (.type "method_descriptor")) (hm : MtR X id r) (ho : PE X o to) (ha : PA X (e :: es) t)
    (hbase : attributeBase o name X.env (eval o X.env) = eval o X.env := by rfl)
    (hfew : ((backTo cpos (starEach (e :: es) X.env)).all (fun x => !x.1) && (backToKw cpos (keywordEach [] X.env)).all (fun x => x.1.isSome)
      && decide ((e :: es).length + ([] : List Keyword).length + (if ([] : List Keyword).isEmpty then 0 else 1) < 30)) = true := by rfl)
    (hline : (apos.endLine == cpos.line) = true := by rfl) (hs : starEach (e :: es) X.env = (false, eval e X.env) :: starEach es X.env := by rfl) (hplain : (backTo cpos (starEach es X.env)).any (·.1) = false := by rfl) :
    PE X (.Call (.Attribute o name apos) (e :: es) [] cpos) (tBM K T r to t) := hK ▸ pe_bm pa slot hty hm ho ha hbase hfew hline hs hplain
theorem pi_enumK {e : Expr} {ta : TA} {p pos tpos : Pos} {elts : List Expr} {kk : Nat} (hK : X.K = K) (hg : Gl X "enumerate") (hm : X.mg "enumerate" = none) (ha : PA X [e] ta) (hs : starEach [e] X.env = [(false, eval e X.env)] := by rfl) :
    PI X (.Tuple elts kk tpos) (.Call (.Name "enumerate" p) [e] [] pos) (iEnum K ta) := hK ▸ pi_enum hg hm ha hs
theorem pi_zipK {e e2 : Expr} {ta : TA} {p pos tpos : Pos} {elts : List Expr} {kk : Nat} (hK : X.K = K) (hg : Gl X "zip") (hm : X.mg "zip" = none) (ha : PA X [e, e2] ta)
    (hs : starEach [e, e2] X.env = (false, eval e X.env) :: starEach [e2] X.env := by rfl) (hpl : (backTo pos (starEach [e2] X.env)).any (·.1) = false := by rfl) :
    PI X (.Tuple elts kk tpos) (.Call (.Name "zip" p) [e, e2] [] pos) (iZip K ta) := hK ▸ pi_zip hg hm ha hs hpl
end
end Lt
namespace Lt
open PySem PySem.Spec PyProof.Rows L2 Evl
open SX (S)
/-- flat: None, truths, ints, texts of signs; tuples and lists of such; n: how deep -/
def okD (n : Nat) (d : PyData) : Prop := d.canLay0 = true ∧ d.depth ≤ n
theorem okD.mono {m n : Nat} {d : PyData} (h : okD m d) (hn : m ≤ n) : okD n d := ⟨h.1, Nat.le_trans h.2 hn⟩
theorem okD.shaped {n : Nat} {d : PyData} (h : okD n d) (hn : n ≤ 64 := by decide) : SeqAt.shaped d = true := by
  unfold SeqAt.shaped
  rw [h.1, decide_eq_true (Nat.le_trans h.2 hn)]; rfl
theorem okD_none : okD 1 .none := ⟨rfl, by simp [PyData.depth]⟩
theorem okD_bool (b : Bool) : okD 1 (.bool b) := ⟨rfl, by simp [PyData.depth]⟩
theorem okD_int (i : Int) : okD 1 (.int i) := ⟨rfl, by simp [PyData.depth]⟩
theorem okD_str {x : Str} (h : PyData.strOk x = true) : okD 1 (.str x) := ⟨h, by simp [PyData.depth]⟩
theorem okD_tx {l : List Nat} (h : ∀ c ∈ l, c < 1114112) : okD 1 (.str (S l)) := okD_str (by
  unfold PyData.strOk
  rw [← Array.all_toList]
  exact List.all_eq_true.mpr fun c hc => decide_eq_true (h c hc))
theorem canAll {ds : List PyData} (h : ∀ d ∈ ds, d.canLay0 = true) : PyData.canLayAll0 ds = true := by
  induction ds with
  | nil => rfl
  | cons d ds ih =>
    show (d.canLay0 && PyData.canLayAll0 ds) = true
    rw [h d (by simp), ih fun e he => h e (by simp [he])]; rfl
theorem depthAll_le {n : Nat} {ds : List PyData} (h : ∀ d ∈ ds, d.depth ≤ n) : PyData.depthAll ds ≤ n := by
  induction ds with
  | nil => simp [PyData.depthAll]
  | cons d ds ih =>
    have h1 := h d (by simp)
    have h2 := ih fun e he => h e (by simp [he])
    simp only [PyData.depthAll]
    omega
theorem okD_list {n : Nat} {ds : List PyData} (h : ∀ d ∈ ds, okD n d) : okD (n + 1) (.list ds) := ⟨canAll fun d hd => (h d hd).1, by
  have := depthAll_le fun d hd => (h d hd).2
  simp only [PyData.depth]; omega⟩
theorem okD_tup {n : Nat} {ds : List PyData} (h : ∀ d ∈ ds, okD n d) : okD (n + 1) (.tuple ds) := ⟨canAll fun d hd => (h d hd).1, by
  have := depthAll_le fun d hd => (h d hd).2
  simp only [PyData.depth]; omega⟩
theorem eqv_nil (ds : List PyData) : PyData.eqv (.list ds) (.list []) = ds.isEmpty := by
  cases ds with
  | nil => rfl
  | cons d ds => rfl
/-- a list's items as data -/
theorem rpall_of {H : Hp} {n : Nat} : ∀ {xs : List V}, (∀ x ∈ xs, ∃ d, okD n d ∧ Rp H x d) → ∃ ds, RpAll H xs ds ∧ ∀ d ∈ ds, okD n d
  | [], _ => ⟨[], .nil, by simp⟩
  | x :: xs, h => by
    obtain ⟨d, h1, h2⟩ := h x (by simp)
    obtain ⟨ds, h3, h4⟩ := rpall_of (xs := xs) fun y hy => h y (by simp [hy])
    exact ⟨d :: ds, .cons h2 h3, by intro e he; rcases List.mem_cons.mp he with rfl | he; exact h1; exact h4 e he⟩
theorem erase_perm : ∀ {α : Type} (l : List α) (i : Nat) (y : α), l[i]? = some y → (y :: l.eraseIdx i).Perm l
  | _, [], i, y, h => by simp at h
  | _, x :: l, 0, y, h => by
    simp at h; subst h
    exact List.Perm.refl _
  | _, x :: l, i + 1, y, h => by
    have h' : l[i]? = some y := by simpa using h
    rw [List.eraseIdx_cons_succ]
    exact (List.Perm.swap x y _).trans ((erase_perm l i y h').cons x)
def abcS : List Nat := [97, 98, 99, 100, 101, 102, 103, 104]
theorem abc_lt {c : Nat} (h : c ∈ abcS) : c < 1114112 := by
  simp [abcS] at h; omega
def SignSeq (H : Hp) (v : V) (ss : List Nat) : Prop := v = Tx ss ∨ ∃ p, v = .ref p ∧ H p = some (.lst (ss.map fun c => Tx [c]))
theorem signs_ok {H : Hp} {l : List Nat} (h : ∀ c ∈ l, c < 1114112) : ∀ x ∈ l.map (fun c => Tx [c]), ∃ d, okD 60 d ∧ Rp H x d := fun x hx => by
  obtain ⟨c, hc, rfl⟩ := List.mem_map.mp hx
  exact ⟨.str (S [c]), (okD_tx (l := [c]) (fun d hd => by rw [List.mem_singleton.mp hd]; exact h c hc)).mono (by decide), .str _⟩
theorem SignSeq.ex {H H' : Hp} {v : V} {ss : List Nat} (h : SignSeq H v ss) (e : Ex H H') : SignSeq H' v ss := by
  rcases h with h | ⟨p, h1, h2⟩
  · exact .inl h
  · exact .inr ⟨p, h1, e _ _ h2⟩
/-- a sign of a text or a list of signs -/
theorem w_ixQ {K : PySem.W.Frag} {H : Hp} {Q : VK} {v : V} {ss : List Nat} {i : Int} (hq : SignSeq H v ss) (hl : ss.length ≤ sizeLine) (h0 : 0 ≤ i) (h1 : i < (ss.length : Int)) (h : ∀ c, ss[i.toNat]? = some c → Q (Tx [c]) H) : rIxU K v (.int i) H Q := by
  rcases hq with rfl | ⟨p, rfl, hp⟩
  · exact w_ixX hl h0 h1 h
  · refine w_ixL hp h0 (by simpa using h1) fun v hv => ?_
    simp at hv
    obtain ⟨c, hc, rfl⟩ := hv
    exact h c hc
theorem w_lenQ {K : PySem.W.Frag} {H : Hp} {Q : VK} {v : V} {ss : List Nat} (hq : SignSeq H v ss) (hl : ss.length ≤ sizeLine) (h : Q (.int (ss.length : Int)) H) : rLenU K [v] H Q := by
  rcases hq with rfl | ⟨p, rfl, hp⟩
  · exact w_lenX hl h
  · refine w_lenL hp ?_
    simpa using h
theorem joinL_nil : ∀ l : List (List Nat), TL.joinL [] l = l.flatten
  | [] => rfl
  | [x] => by simp [TL.joinL]
  | x :: y :: l => by
    have h := joinL_nil (y :: l)
    simp only [TL.joinL, h]
    simp
theorem joinL_signs (l : List Nat) : TL.joinL [] (l.map fun c => [c]) = l := by
  rw [joinL_nil]
  induction l with
  | nil => rfl
  | cons c l ih => simp [ih]
theorem rpall_signs {α : Type} {H : Hp} {g : α → Nat} : ∀ {l : List α} {acc : List V}, RpAll H acc (l.map fun x => .str (S [g x])) → acc = (l.map g).map fun c => Tx [c]
  | [], _, h => rpall_nil h
  | x :: l, _, h => by
    obtain ⟨v, ws, rfl, h1, h2⟩ := rpall_cons h
    rw [rp_str h1, rpall_signs h2]; rfl
theorem w_join1 {K : PySem.W.Frag} {H : Hp} {Q : VK} {p : Addr} {l : List Nat} (hp : H p = some (.lst (l.map fun c => Tx [c]))) (hl : l.length ≤ 16777216) (h : Q (Tx l) H) : rJoinX K (Tx []) [.ref p] H Q := by
  refine w_join (ls := l.map fun c => [c]) (by rw [List.map_map]; exact hp) ?_ (by rw [joinL_signs]; exact h)
  have e2 : ((l.map fun c => [c]).map List.length) = List.replicate l.length 1 := by
    rw [List.map_map]
    exact List.map_const' ..
  rw [e2]
  simp only [List.sum_replicate_nat, List.length_map, List.length_nil, Nat.mul_one, Nat.mul_zero, Nat.add_zero]
  exact hl
theorem perm_map {α β : Type} {f : α → β} : ∀ {ys : List β} {l : List α}, ys.Perm (l.map f) → ∃ m : List α, m.Perm l ∧ ys = m.map f := by
  intro ys l h
  generalize hx : l.map f = xs at h
  induction h generalizing l with
  | nil => cases l with
    | nil => exact ⟨[], .refl _, rfl⟩
    | cons a l => simp at hx
  | cons y _ ih => cases l with
    | nil => simp at hx
    | cons a l =>
      simp at hx
      obtain ⟨h1, h2⟩ := hx
      obtain ⟨m, hm, e⟩ := ih h2
      exact ⟨a :: m, hm.cons a, by simp [h1, e]⟩
  | swap x y ys => cases l with
    | nil => simp at hx
    | cons a l => cases l with
      | nil => simp at hx
      | cons b l =>
        simp at hx
        obtain ⟨h1, h2, h3⟩ := hx
        exact ⟨b :: a :: l, .swap a b l, by simp [h1, h2, h3]⟩
  | trans _ _ ih1 ih2 =>
    obtain ⟨m, hm, e⟩ := ih2 hx
    obtain ⟨m', hm', e'⟩ := ih1 e.symm
    exact ⟨m', hm'.trans hm, e'⟩
theorem cutL_map {α β : Type} (f : α → β) (l : List α) (lo hi : Option Int) : cutL (l.map f) lo hi = (cutL l lo hi).map f := by
  unfold cutL
  rw [List.length_map, ← List.map_drop, ← List.map_take]
theorem cutL_to {α : Type} (l : List α) {k : Int} (hk : 0 ≤ k) : cutL l none (some k) = l.take k.toNat := by
  obtain ⟨n, rfl⟩ : ∃ n : Nat, k = n := ⟨k.toNat, by omega⟩
  unfold cutL
  rw [HT.sIx_none, HT.sIx_nat]
  simp only [List.drop_zero, Nat.sub_zero, Int.toNat_natCast]
  rw [Nat.min_def]
  split
  · rfl
  · rw [List.take_of_length_le (Nat.le_refl _), List.take_of_length_le (by omega)]
theorem cutL_from {α : Type} (l : List α) {k : Int} (hk : 0 ≤ k) : cutL l (some k) none = l.drop k.toNat := by
  obtain ⟨n, rfl⟩ : ∃ n : Nat, k = n := ⟨k.toNat, by omega⟩
  unfold cutL
  rw [HT.sIx_none, HT.sIx_nat]
  simp only [Int.toNat_natCast]
  rw [Nat.min_def]
  split
  · rw [List.take_of_length_le (by simp)]
  · rw [List.drop_of_length_le (Nat.le_refl _), List.drop_of_length_le (by omega)]; simp
theorem cutL_both {α : Type} (l : List α) {k m : Int} (hk : 0 ≤ k) (hm : 0 ≤ m) : cutL l (some k) (some m) = (l.drop k.toNat).take (m.toNat - k.toNat) := by
  obtain ⟨n, rfl⟩ : ∃ n : Nat, k = n := ⟨k.toNat, by omega⟩
  obtain ⟨q, rfl⟩ : ∃ n : Nat, m = n := ⟨m.toNat, by omega⟩
  unfold cutL
  rw [HT.sIx_nat, HT.sIx_nat]
  simp only [Int.toNat_natCast]
  by_cases h : n ≤ l.length
  · rw [Nat.min_eq_left h]
    by_cases h2 : q ≤ l.length
    · rw [Nat.min_eq_left h2]
    · rw [Nat.min_eq_right (by omega), List.take_of_length_le (by simp), List.take_of_length_le (by simp; omega)]
  · rw [Nat.min_eq_right (show l.length ≤ n by omega), List.drop_of_length_le (Nat.le_refl _), List.drop_of_length_le (show l.length ≤ n by omega)]; simp
def turnM (row : List Nat) (h t : Nat) : List Nat := row.take h ++ ((row.drop h).take (t + 1 - h)).reverse ++ row.drop (t + 1)
def turnsIn (row held : List Nat) (h j : Nat) : List (Nat × Nat) :=
  if row.getD h 0 ∈ held then [] else ((List.range' (h + 1) j).filter fun t => decide (row.getD t 0 = row.getD h 0)).map fun t => (h, t)
def turnsAt (row held : List Nat) (h : Nat) : List (Nat × Nat) := turnsIn row held h (row.length - (h + 1))
theorem turnsIn_more (row held : List Nat) (h j : Nat) : turnsIn row held h (j + 1) = turnsIn row held h j ++ (if row.getD h 0 ∉ held ∧ row.getD (h + 1 + j) 0 = row.getD h 0 then [(h, h + 1 + j)] else []) := by
  unfold turnsIn
  by_cases h1 : row.getD h 0 ∈ held
  · rw [if_pos h1, if_pos h1, if_neg (fun q => q.1 h1)]; rfl
  · rw [if_neg h1, if_neg h1, List.range'_1_concat, List.filter_append, List.map_append]
    by_cases h2 : row.getD (h + 1 + j) 0 = row.getD h 0
    · rw [if_pos ⟨h1, h2⟩]
      simp only [List.filter_cons, List.filter_nil]
      rw [if_pos (by simpa using h2)]; rfl
    · rw [if_neg (fun q => h2 q.2)]
      simp only [List.filter_cons, List.filter_nil]
      rw [if_neg (by simpa using h2)]; rfl
def turnsM (row held : List Nat) : List (Nat × Nat) := (List.range row.length).flatMap (turnsAt row held)
theorem turns_more (row held : List Nat) (i : Nat) : (List.range (i + 1)).flatMap (turnsAt row held) = (List.range i).flatMap (turnsAt row held) ++ turnsAt row held i := by
  rw [List.range_succ, List.flatMap_append]
  simp
/-- a list that grows in a loop -/
theorem LcInv.start {H H1 : Hp} {p : Addr} (hp : H p = none) (e : Ex H H1) (h : H1 p = some (.lst [])) : LcInv H p [] 0 H1 := ⟨[], hp, e, h, .nil, rfl, Nat.le_refl _⟩
theorem LcInv.ex {H H1 H2 : Hp} {p : Addr} {ds : List PyData} {n m : Nat} (i : LcInv H p ds n H1) (e : Ex H1 H2) (hn : n ≤ m) : LcInv H p ds m H2 := by
  obtain ⟨acc, h1, h2, h3, h4, h5, h6⟩ := i
  exact ⟨acc, h1, h2.trans e, e _ _ h3, h4.ex e, h5, Nat.le_trans h6 hn⟩
end Lt
namespace Lt
open PySem PySem.Spec PyProof.Rows L2 Evl
open SX (S)
def appV (vs zs : List V) : List V := vs ++ zs
section
variable {σ : L2.St} {H : Hp} {Q : VK} {sp : Sp} {E : XK} {a b c d e : V} {n m : Nat} {t tk : TA} {gV : List V → List V → List V}
theorem w_callK (h : t σ H fun vs H1 => tk σ H1 fun zs H2 => vs.length = n ∧ zs.length = m ∧ sp (gV vs zs) H2 Q E) : tCallN n m sp gV E t tk σ H Q := h
theorem w_kb1 {y : Str} (h : sp [a, b] H Q E) : [a].length = 1 ∧ [b].length = [y].length ∧ sp (appV [a] [b]) H Q E := ⟨rfl, rfl, h⟩
theorem w_kb2 {y : Str} (h : sp [a, b, c] H Q E) : [a, b].length = 2 ∧ [c].length = [y].length ∧ sp (appV [a, b] [c]) H Q E := ⟨rfl, rfl, h⟩
theorem w_kb3 {y : Str} (h : sp [a, b, c, d] H Q E) : [a, b, c].length = 3 ∧ [d].length = [y].length ∧ sp (appV [a, b, c] [d]) H Q E := ⟨rfl, rfl, h⟩
theorem w_isT {n t : String} (ht : Tg H a t) (hn : n ∈ ["int", "bool", "str", "tuple", "list"]) (hb : isiB t n = true) (h : Q (.bl true) H) : rIsU [a, .ty n] H Q := w_is ht hn (by rw [hb]; exact h)
theorem w_isF {n t : String} (ht : Tg H a t) (hn : n ∈ ["int", "bool", "str", "tuple", "list"]) (hb : isiB t n = false) (h : Q (.bl false) H) : rIsU [a, .ty n] H Q := w_is ht hn (by rw [hb]; exact h)
theorem w_itT {A B : Prop} (h : A) : if true = true then A else B := h
theorem w_itF {A B : Prop} (h : B) : if false = true then A else B := h
theorem w_itNT {A B : Prop} (h : B) : if (!true) = true then A else B := h
theorem w_itNF {A B : Prop} (h : A) : if (!false) = true then A else B := h
theorem w_kd1 (h : sp [a, b] H Q E) : sp ([a] ++ [b]) H Q E := h
theorem w_kd2 (h : sp [a, b, c] H Q E) : sp ([a, b] ++ [c]) H Q E := h
theorem w_kd3 (h : sp [a, b, c, d] H Q E) : sp ([a, b, c] ++ [d]) H Q E := h
end
theorem rpall_bools {α : Type} {H : Hp} {g : α → Bool} : ∀ {l : List α} {acc : List V}, RpAll H acc (l.map fun x => .bool (g x)) → acc = (l.map g).map V.bl
  | [], acc, h => by cases h; rfl
  | x :: l, acc, h => by
    obtain ⟨v, ws, rfl, hv, hw⟩ := rpall_cons h
    rw [rp_bool hv, rpall_bools hw]; rfl
section
variable {K : PySem.W.Frag} {σ : L2.St} {H : Hp} {Q : VK} {tt : TT} {te : TE} {J : It} {n : Nat} {G : Hp → Prop} {Y : Nat → Hp → V → Hp → Prop} {vs : List Nat}
abbrev g2 (K : PySem.W.Frag) (a b : Nat) : TG := gTup K 2 (gCons (gName a) (gCons (gName b) gNil))
theorem g2_ok {a b : Nat} {T : Addr} {x y : V} {k : L2.St → Hp → Prop} (h : Rd H T (.tup [x, y])) (q : k ((σ.set a (some x)).set b (some y)) H) : g2 K a b (.ref T) σ H k :=
  w_gtup h rfl (w_gcons (w_gcons (w_gnil q)))
theorem tYes_step {σ2 : L2.St} {H1 H2 : Hp} {d0 : List PyData} {G1 : List PyData → Prop} (h : te σ2 H2 fun y H4 => Ex H1 H4 ∧ ∃ d, flatD d = true ∧ Rp H4 y d ∧ G1 (d0 ++ [d])) : LcStep H1 d0 G1 tYes te σ2 H2 := by
  unfold LcStep
  refine w_yes ?_
  simp only [if_true]
  exact h
/-- [truth for x in ..] -/
theorem lcX_bl {k : Nat} (w : Walk J n G Y) (hz : n ≤ 100000) (g : Nat → Bool) (hG : ∀ H', Ex H H' → G H')
    (hw : ∀ v, wipe ((wipe σ vs).set k (some v)) vs = wipe σ vs)
    (hs : ∀ i x H1 H2 (Q' : VK), i < n → Ex H H1 → Y i H1 x H2 → (∀ H4, Ex H1 H4 → Q' (.bl (g i)) H4) → te ((wipe σ vs).set k (some x)) H2 Q')
    (hd : ∀ p H2, H p = none → Ex H H2 → H2 p = some (.lst (((List.range n).map g).map V.bl)) → Q (.ref p) H2) : LcX J (gName k) (tCutT tYes) (tCutE te) vs σ H Q :=
  lcX_1 w hz (fun i => (List.range i).map fun k => .bool (g k)) rfl hG hw (fun i x H1 H2 hi e y => tYes_step (hs i x H1 H2 _ hi e y fun H4 e4 => ⟨e4, .bool (g i), rfl, .bl _, by rw [range_more, List.map_append]; rfl⟩))
    (fun p H2 acc hp e h r _ => hd p H2 hp e (by rw [h, rpall_bools r]))
theorem all_range {g : Nat → Bool} {n : Nat} (h : ∀ i, i < n → g i = true) : ((List.range n).map g).all id = true := by
  simp only [List.all_map, List.all_eq_true, List.mem_range, Function.comp, id]
  exact h
end
end Lt
namespace Lt
open PySem PySem.Spec PyProof.Rows L2 Evl
open SX (S)
section
variable {K : PySem.W.Frag} {σ : L2.St} {H H1 H2 : Hp} {Q : VK} {xs zs : List V} {m b : Addr}
theorem w_ext (hp : H m = some (.lst xs)) (hb : H b = some (.lst zs)) (hl : xs.length + zs.length ≤ sizeLine) (h : ∀ H2, ExB m H H2 → H2 m = some (.lst (xs ++ zs)) → Q .non H2) : rExtend (.ref m) [.ref b] H Q :=
  ⟨m, b, xs, zs, rfl, rfl, hp, hb, hl, h _ ExB.upd upd_same⟩
theorem w_revL {te : TE} (h : te σ H fun x H1 => ∃ a xs, x = .ref a ∧ SqL K H1 a xs ∧ ∀ p, H1 p = none → Q (.ref p) (upd H1 p (.lst xs.reverse))) : tRevL K te σ H Q := h
theorem w_revLk {P : List V → Addr → Prop} (hp : H m = some (.lst xs)) (h : ∀ p, H p = none → P xs p) : ∃ a ys, V.ref m = .ref a ∧ SqL K H a ys ∧ ∀ p, H p = none → P ys p := ⟨m, xs, rfl, SqL.of hp, h⟩
theorem flatDs_app : ∀ {ds es : List PyData}, flatDs ds = true → flatDs es = true → flatDs (ds ++ es) = true
  | [], es, _, h => h
  | e :: ds, es, h, h' => by
    have h2 : flatD e = true ∧ flatDs ds = true := by simpa [flatDs] using h
    show (flatD e && flatDs (ds ++ es)) = true
    rw [h2.1, flatDs_app h2.2 h']; rfl
/-- behind an extend -/
theorem LcInv.ext {H H1 H2 : Hp} {p : Addr} {acc ys : List V} {ds es : List PyData} {n m : Nat} (h1 : H p = none) (h2 : Ex H H1) (h3 : H1 p = some (.lst acc)) (h4 : RpAll H1 acc ds) (h5 : flatDs ds = true) (h6 : acc.length ≤ n)
    (hy : RpAll H1 ys es) (hf : flatDs es = true) (hl : ys.length ≤ m) (b : ExB p H1 H2) (h7 : H2 p = some (.lst (acc ++ ys))) : LcInv H p (ds ++ es) (n + m) H2 := by
  have et : ∀ b' xs, Rd H1 b' (.tup xs) → Rd H2 b' (.tup xs) := fun b' xs hb => by
    rcases hb with hb | ⟨o, hb⟩
    · exact .inl (b b' _ (ne_of hb h3 (by intro q; cases q)) hb)
    · exact .inr ⟨o, b b' _ (ne_of hb h3 (by intro q; cases q)) hb⟩
  refine ⟨acc ++ ys, h1, Ex.but h2 b h1, h7, (RpAll.exT et h5 h4).append (RpAll.exT et hf hy), flatDs_app h5 hf, ?_⟩
  rw [List.length_append]; omega
end
section
variable {K : PySem.W.Frag} {H : Hp} {Q : VK} {x : V}
theorem w_isN (h : Q (.bl true) H) : rIsN .non .non H Q := ⟨rfl, h⟩
theorem w_isNx (hx : x ≠ .non) (h : Q (.bl false) H) : rIsN x .non H Q := ⟨rfl, by rw [decide_eq_false hx]; exact h⟩
theorem w_notN (h : Q (.bl false) H) : rNotN .non .non H Q := ⟨rfl, h⟩
theorem w_notNx (hx : x ≠ .non) (h : Q (.bl true) H) : rNotN x .non H Q := ⟨rfl, by rw [decide_eq_false hx]; exact h⟩
theorem w_neB1 (h : Q (.bl false) H) : rNeU K (.bl true) (.bl true) H Q := w_neS rfl h
theorem w_neB2 (h : Q (.bl false) H) : rNeU K (.bl false) (.bl false) H Q := w_neS rfl h
theorem w_neB3 (h : Q (.bl true) H) : rNeU K (.bl true) (.bl false) H Q := w_neS rfl h
theorem w_neB4 (h : Q (.bl true) H) : rNeU K (.bl false) (.bl true) H Q := w_neS rfl h
theorem w_eqB {b : Bool} (h : Q (.bl true) H) : rEqU K (.bl b) (.bl b) H Q := w_eqS rfl (by rw [decide_eq_true rfl]; exact h)
theorem w_eqStr {l : Str} (h : Q (.bl true) H) : rEqU K (.str l) (.str l) H Q := w_eqS rfl (by rw [decide_eq_true rfl]; exact h)
end
section
variable {H : Hp} {Q : VK} {p : Addr} {xs : List V} {n : String}
theorem w_isLT (hp : H p = some (.lst xs)) (hn : n ∈ ["int", "bool", "str", "tuple", "list"]) (hb : isiB "list" n = true) (h : Q (.bl true) H) : rIsU [.ref p, .ty n] H Q := w_isT (Tg.lst hp) hn hb h
theorem w_isLF (hp : H p = some (.lst xs)) (hn : n ∈ ["int", "bool", "str", "tuple", "list"]) (hb : isiB "list" n = false) (h : Q (.bl false) H) : rIsU [.ref p, .ty n] H Q := w_isF (Tg.lst hp) hn hb h
theorem w_isUT (hp : Rd H p (.tup xs)) (hn : n ∈ ["int", "bool", "str", "tuple", "list"]) (hb : isiB "tuple" n = true) (h : Q (.bl true) H) : rIsU [.ref p, .ty n] H Q := w_isT (Tg.tup hp) hn hb h
theorem w_isUF (hp : Rd H p (.tup xs)) (hn : n ∈ ["int", "bool", "str", "tuple", "list"]) (hb : isiB "tuple" n = false) (h : Q (.bl false) H) : rIsU [.ref p, .ty n] H Q := w_isF (Tg.tup hp) hn hb h
end
end Lt
namespace Lt
open PySem PySem.Spec PyProof.Rows L2 Evl
open SX (S)
/-- what bars a turn of two places -/
def whyM (row held : List Nat) (h t : Int) : List Nat :=
  if 0 ≤ h ∧ h < t ∧ t < row.length then (if row.getD h.toNat 0 ≠ row.getD t.toNat 0 then [117, 110, 108, 105, 107, 101] else if row.getD h.toNat 0 ∈ held then [112, 105, 110, 110, 101, 100] else []) else [112, 108, 97, 99, 101]
/-- turns made one behind another: each is allowed -/
def goesM (held : List Nat) : List Nat → List (Nat × Nat) → Prop
  | _, [] => True
  | row, q :: ts => whyM row held q.1 q.2 = [] ∧ goesM held (turnM row q.1 q.2) ts
def runM (row : List Nat) (ts : List (Nat × Nat)) : List Nat := ts.foldl (fun r q => turnM r q.1 q.2) row
theorem turnM_len {row : List Nat} {h t : Nat} (hh : h ≤ t) (ht : t < row.length) : (turnM row h t).length = row.length := by
  unfold turnM; simp; omega
theorem turnM_mem {row : List Nat} {h t : Nat} (hh : h ≤ t) : ∀ {c}, c ∈ turnM row h t → c ∈ row := by
  intro c hc
  unfold turnM at hc
  rw [List.mem_append, List.mem_append, List.mem_reverse] at hc
  rcases hc with (hc | hc) | hc
  · exact List.mem_of_mem_take hc
  · exact List.mem_of_mem_drop (List.mem_of_mem_take hc)
  · exact List.mem_of_mem_drop hc
theorem goesM_more {held : List Nat} : ∀ {ts : List (Nat × Nat)} {row : List Nat} {i : Nat} {q : Nat × Nat}, goesM held row ts → ts[i]? = some q → whyM (runM row (ts.take i)) held q.1 q.2 = []
  | q :: ts, row, 0, q', g, h => by
    cases h
    exact g.1
  | q :: ts, row, i + 1, q', g, h => goesM_more (ts := ts) g.2 h
theorem runM_more {row : List Nat} {ts : List (Nat × Nat)} {i : Nat} {q : Nat × Nat} (h : ts[i]? = some q) : runM row (ts.take (i + 1)) = turnM (runM row (ts.take i)) q.1 q.2 := by
  rw [take_more h]
  unfold runM
  rw [List.foldl_append]; rfl
theorem turnsIn_mem {row held : List Nat} {h : Nat} : ∀ {j : Nat} {q : Nat × Nat}, q ∈ turnsIn row held h j → q.1 = h ∧ h < q.2 ∧ q.2 < h + 1 + j ∧ row.getD h 0 ∉ held ∧ row.getD q.2 0 = row.getD h 0
  | 0, q, hq => by simp [turnsIn] at hq
  | j + 1, q, hq => by
    rw [turnsIn_more, List.mem_append] at hq
    rcases hq with hq | hq
    · obtain ⟨a, b, c, d⟩ := turnsIn_mem hq
      exact ⟨a, b, by omega, d⟩
    · split at hq
      · rename_i c
        simp at hq
        subst hq
        exact ⟨rfl, by show h < h + 1 + j; omega, by show h + 1 + j < _; omega, c⟩
      · cases hq
theorem turnsM_mem {row held : List Nat} {q : Nat × Nat} (hq : q ∈ turnsM row held) : q.1 < q.2 ∧ q.2 < row.length ∧ row.getD q.1 0 ∉ held ∧ row.getD q.2 0 = row.getD q.1 0 := by
  unfold turnsM at hq
  rw [List.mem_flatMap] at hq
  obtain ⟨h, hh, hq⟩ := hq
  rw [List.mem_range] at hh
  obtain ⟨rfl, b, c, d, e⟩ := turnsIn_mem hq
  exact ⟨b, by omega, d, e⟩
theorem whyM_turns {row held : List Nat} {q : Nat × Nat} (hq : q ∈ turnsM row held) : whyM row held q.1 q.2 = [] := by
  obtain ⟨a, b, c, d⟩ := turnsM_mem hq
  unfold whyM
  rw [if_pos (by omega)]
  have e1 : ((q.1 : Int)).toNat = q.1 := by omega
  have e2 : ((q.2 : Int)).toNat = q.2 := by omega
  rw [e1, e2, if_neg (fun z => z d.symm), if_neg c]
theorem runM_snoc (row : List Nat) (ts : List (Nat × Nat)) (q : Nat × Nat) : runM row (ts ++ [q]) = turnM (runM row ts) q.1 q.2 := by
  unfold runM
  rw [List.foldl_append]; rfl
theorem goesM_snoc {held : List Nat} : ∀ {ts : List (Nat × Nat)} {row : List Nat} {q : Nat × Nat}, goesM held row ts → whyM (runM row ts) held q.1 q.2 = [] → goesM held row (ts ++ [q])
  | [], row, q, _, h => ⟨h, trivial⟩
  | _ :: ts, row, q, g, h => ⟨g.1, goesM_snoc (ts := ts) g.2 h⟩
/-- data of which _law_alike says that two are alike -/
def alk : Nat → PyData → Bool
  | 0, _ => false
  | n + 1, .none => true
  | n + 1, .bool _ => true
  | n + 1, .int _ => true
  | n + 1, .str _ => true
  | n + 1, .tuple ds => decide (ds.length ≤ 100000) && ds.all (alk n)
  | n + 1, .list ds => decide (ds.length ≤ 100000) && ds.all (alk n)
  | _ + 1, _ => false
theorem alk_get {n : Nat} {ds : List PyData} (h : (decide (ds.length ≤ 100000) && ds.all (alk n)) = true) : ds.length ≤ 100000 ∧ ∀ d ∈ ds, alk n d = true := by
  simpa only [Bool.and_eq_true, decide_eq_true_eq, List.all_eq_true] using h
theorem turnM_get {row : List Nat} {h t i : Nat} (hh : h ≤ t) (ht : t < row.length) : (turnM row h t)[i]? = if h ≤ i ∧ i ≤ t then row[h + t - i]? else row[i]? := by
  unfold turnM
  have l1 : (row.take h).length = h := by simp; omega
  have l2 : ((row.drop h).take (t + 1 - h)).reverse.length = t + 1 - h := by simp; omega
  by_cases c1 : i < h
  · rw [if_neg (by omega), List.append_assoc, List.getElem?_append_left (by omega), List.getElem?_take_of_lt c1]
  · by_cases c2 : i ≤ t
    · rw [if_pos (by omega), List.append_assoc, List.getElem?_append_right (by omega), List.getElem?_append_left (by omega), l1, List.getElem?_reverse (by simp; omega)]
      rw [List.getElem?_take_of_lt (by simp; omega), List.getElem?_drop]
      congr 1
      simp
      omega
    · rw [if_neg (by omega), List.getElem?_append_right (by simp; omega), List.getElem?_drop]
      congr 1
      simp
      omega
theorem whyM_iff {row held : List Nat} {h t : Nat} : whyM row held h t = [] ↔ h < t ∧ t < row.length ∧ row.getD h 0 = row.getD t 0 ∧ row.getD h 0 ∉ held := by
  unfold whyM
  have e1 : ((h : Int)).toNat = h := by omega
  have e2 : ((t : Int)).toNat = t := by omega
  rw [e1, e2]
  constructor
  · intro z
    split at z
    · rename_i c
      split at z
      · cases z
      · rename_i c2
        split at z
        · cases z
        · rename_i c3
          exact ⟨by omega, by omega, Decidable.not_not.mp c2, c3⟩
    · cases z
  · rintro ⟨a, b, c, d⟩
    rw [if_pos (by omega), if_neg (fun q => q c), if_neg d]
theorem turnM_getD {row : List Nat} {h t i : Nat} (hh : h ≤ t) (ht : t < row.length) : (turnM row h t).getD i 0 = if h ≤ i ∧ i ≤ t then row.getD (h + t - i) 0 else row.getD i 0 := by
  rw [List.getD_eq_getElem?_getD, turnM_get hh ht]
  split <;> rw [List.getD_eq_getElem?_getD]
end Lt
namespace Lt
open PySem PySem.Spec PyProof.Rows L2 Evl
open SX (S)
inductive Dt where
  | non | bl (b : Bool) | int (i : Int) | str (l : List Nat) | tup (ds : List Dt) | tpk (ds : List Dt) | lst (ds : List Dt) | dic (ks : List Key) (ds : List Dt) | dice | val (v : V) | ob (i : Nat) (ds : List Dt)
/-- tuples, which never change -/
def tupO : HO → Bool
  | .tup _ => true
  | .frz _ (.tup _) => true
  | _ => false
def TupK (A : Addr → Prop) (H : Hp) (A' : Addr → Prop) (H' : Hp) : Prop := ∀ a u, A a → H a = some u → tupO u = true → A' a ∧ H' a = some u
/-- kinds of objects that never stand for what may change -/
def fixO : HO → Bool
  | .ext _ => false
  | .tbl _ => false
  | _ => true
/-- what a program's own kinds of objects ask: objects that may change (ch) and stay what they stand for (sp), what is always so of them (Z), data that stand for them (ob) -/
class ZI where
  ch : HO → Prop
  ch_fix : ∀ {o}, fixO o = true → ¬ ch o
  ch_ext : ∀ {φ}, ch (.ext φ) → ∃ h0, φ h0 ∧ ∀ b ob, h0.get? b = some ob → ∃ es ep, ob.data = .dict es ep
  sp : (Addr → Prop) → Hp → Addr → HO → HO → Prop
  sp_rfl : ∀ {A H q} o, sp A H q o o
  sp_trans : ∀ {A H A' H' q a b c}, sp A H q a b → TupK A H A' H' → sp A' H' q b c → sp A' H' q a c
  sp_ch : ∀ {A H q a b}, sp A H q a b → b = a ∨ (ch a ∧ ch b)
  Z : Hp → Prop
  ob : Nat → List Dt → (Addr → Prop) → Hp → V → Prop
  ob_ref : ∀ {i ds A H v}, ob i ds A H v → ∃ a, v = .ref a
  ob_mono : ∀ {i ds A A' H H' v}, (∀ a o, A a → H a = some o → A' a ∧ ∃ o', H' a = some o' ∧ sp A' H' a o o') → ob i ds A H v → ob i ds A' H' v
  ob_lock : ∀ {i ds} {A A' : Addr → Prop} {H H' v}, (∀ a o, A a → H a = some o → A' a ∧ (H' a = some o ∨ ∃ ws, Rd H a (.dK ws) ∧ Rd H' a (.dK ws))) → ob i ds A H v → ob i ds A' H' v
variable [ZI]
abbrev sp (A : Addr → Prop) (H : Hp) (q : Addr) (a b : HO) : Prop := ZI.sp A H q a b
section
variable {A : Addr → Prop} {H : Hp} {q : Addr}
theorem ZI.sp_mono {A' : Addr → Prop} {H' : Hp} {a b : HO} (h : ZI.sp A H q a b) (k : TupK A H A' H') : ZI.sp A' H' q a b := ZI.sp_trans h k (ZI.sp_rfl b)
theorem ZI.sp_fix {o u : HO} (h : fixO o = true) (s : ZI.sp A H q o u) : u = o := (ZI.sp_ch s).resolve_right fun z => ZI.ch_fix h z.1
theorem ZI.sp_fix' {o u : HO} (h : fixO u = true) (s : ZI.sp A H q o u) : o = u := ((ZI.sp_ch s).resolve_right fun z => ZI.ch_fix h z.2).symm
theorem ZI.sp_lst {xs : List V} {o : HO} (s : ZI.sp A H q (.lst xs) o) : o = .lst xs := ZI.sp_fix rfl s
theorem ZI.sp_tup {xs : List V} {o : HO} (s : ZI.sp A H q (.tup xs) o) : o = .tup xs := ZI.sp_fix rfl s
theorem ZI.sp_dK {ws : List (Key × V)} {o : HO} (s : ZI.sp A H q (.dK ws) o) : o = .dK ws := ZI.sp_fix rfl s
theorem ZI.sp_frz {ob : Obj} {u o : HO} (s : ZI.sp A H q (.frz ob u) o) : o = .frz ob u := ZI.sp_fix rfl s
theorem dice_no {a : Addr} : ¬ ZI.ch (DiceO a) := fun z => by
  obtain ⟨h0, ⟨xs, its, n, _, _, e⟩, k⟩ := ZI.ch_ext (φ := fun h => ∃ (xs : List Int) (its : List Value) (n : Nat), DiceOk xs ∧ Vals (xs.map V.int) its ∧ h.get? a = some { cls := .type "list", data := .seq its.toArray n }) z
  obtain ⟨es, ep, q⟩ := k _ _ e
  cases q
theorem ZI.sp_dice {a : Addr} {o : HO} (s : ZI.sp A H q (DiceO a) o) : o = DiceO a := (ZI.sp_ch s).resolve_right fun z => dice_no z.1
end
/-- all objects stay, or what they stand for does -/
def ExN (B : Addr → Prop) (H H' : Hp) : Prop := ∀ b o, H b = some o → ∃ o', H' b = some o' ∧ sp B H' b o o'
section
variable {B B' : Addr → Prop} {H H1 H2 H' : Hp} {q : Addr}
theorem ExN.of (e : Ex H H') : ExN B H H' := fun b o h => ⟨o, e b o h, ZI.sp_rfl o⟩
theorem ExN.tupk (e : ExN B' H H') (k : ∀ x, B x → B' x) : TupK B H B' H' := fun a u ha hu ht => by
  obtain ⟨o', h', s⟩ := e a u hu
  have : o' = u := ZI.sp_fix (by cases u <;> first | rfl | cases ht) s
  rw [this] at h'
  exact ⟨k a ha, h'⟩
theorem ExN.trans (a : ExN B H H1) (b : ExN B' H1 H2) (k : ∀ x, B' x → B x) : ExN B H H2 := fun c o h => by
  obtain ⟨o1, h1, s1⟩ := a c o h
  obtain ⟨o2, h2, s2⟩ := b c o1 h1
  refine ⟨o2, h2, ZI.sp_trans s1 (fun x u hx hu ht => ?_) (ZI.sp_mono s2 fun x u hx hu ht => ⟨k x hx, hu⟩)⟩
  obtain ⟨o', h', s⟩ := b x u hu
  have : o' = u := ZI.sp_fix (by cases u <;> first | rfl | cases ht) s
  rw [this] at h'
  exact ⟨hx, h'⟩
theorem ExN.none (e : ExN B H H') (h : H' q = none) : H q = none := by
  cases k : H q with
  | none => rfl
  | some o => obtain ⟨o', h', _⟩ := e q o k; rw [h] at h'; cases h'
theorem ExN.dK (e : ExN B H H') {ws : List (Key × V)} (h : H q = some (.dK ws)) : H' q = some (.dK ws) := by
  obtain ⟨o', h', s⟩ := e q _ h
  rw [ZI.sp_dK s] at h'; exact h'
theorem ExN.frz (e : ExN B H H') {ob : Obj} {u : HO} (h : H q = some (.frz ob u)) : H' q = some (.frz ob u) := by
  obtain ⟨o', h', s⟩ := e q _ h
  rw [ZI.sp_frz s] at h'; exact h'
theorem ExN.at (e : ExN B H H') {o : HO} (h : H q = some o) (hd : ¬ ZI.ch o) : H' q = some o := by
  obtain ⟨o', h2, s⟩ := e q _ h
  rw [(ZI.sp_ch s).resolve_right fun z => hd z.1] at h2; exact h2
end
mutual
/-- v stands for the data, all of whose objects lie at places of A -/
def Fr (A : Addr → Prop) (H : Hp) : Dt → V → Prop
  | .non, v => v = .non
  | .bl b, v => v = .bl b
  | .int i, v => v = .int i
  | .str l, v => v = Tx l
  | .tup ds, v => ∃ a xs, v = .ref a ∧ A a ∧ Rd H a (.tup xs) ∧ FrAll A H ds xs
  | .tpk ds, v => ∃ (a : Addr) (xs : List V) (o : Obj), v = .ref a ∧ A a ∧ H a = some (.frz o (.tup xs)) ∧ o.dict = none ∧ FrAll A H ds xs
  | .lst ds, v => ∃ a xs, v = .ref a ∧ A a ∧ H a = some (.lst xs) ∧ FrAll A H ds xs
  | .dic ks ds, v => ∃ (a : Addr) (ws : List (Key × V)), v = .ref a ∧ A a ∧ Rd H a (.dK ws) ∧ ws.map (·.1) = ks ∧ FrAll A H ds (ws.map (·.2))
  | .dice, v => ∃ a, v = .ref a ∧ A a ∧ H a = some (DiceO a)
  | .val w, v => v = w
  | .ob i ds, v => ZI.ob i ds A H v
def FrAll (A : Addr → Prop) (H : Hp) : List Dt → List V → Prop
  | [], vs => vs = []
  | d :: ds, vs => ∃ v ws, vs = v :: ws ∧ Fr A H d v ∧ FrAll A H ds ws
end
mutual
theorem Fr.monoN {A A' : Addr → Prop} {H H' : Hp} (h : ∀ a o, A a → H a = some o → A' a ∧ ∃ o', H' a = some o' ∧ sp A' H' a o o') : ∀ {d : Dt} {v : V}, Fr A H d v → Fr A' H' d v
  | .non, _, r => r
  | .bl _, _, r => r
  | .int _, _, r => r
  | .str _, _, r => r
  | .val _, _, r => r
  | .ob _ _, _, r => ZI.ob_mono h r
  | .dice, _, r => by
    obtain ⟨a, e, ha, hh⟩ := r
    obtain ⟨h1, o', h2, s⟩ := h _ _ ha hh
    rw [ZI.sp_dice s] at h2
    exact ⟨a, e, h1, h2⟩
  | .tup ds, _, r => by
    obtain ⟨a, xs, e, ha, hh, k⟩ := r
    rcases hh with hh | ⟨o, hh⟩
    · obtain ⟨h1, o', h2, s⟩ := h _ _ ha hh
      rw [ZI.sp_tup s] at h2
      exact ⟨a, xs, e, h1, .inl h2, FrAll.monoN h k⟩
    · obtain ⟨h1, o', h2, s⟩ := h _ _ ha hh
      rw [ZI.sp_frz s] at h2
      exact ⟨a, xs, e, h1, .inr ⟨o, h2⟩, FrAll.monoN h k⟩
  | .tpk ds, _, r => by
    obtain ⟨a, xs, o, e, ha, hh, hd, k⟩ := r
    obtain ⟨h1, o', h2, s⟩ := h _ _ ha hh
    rw [ZI.sp_frz s] at h2
    exact ⟨a, xs, o, e, h1, h2, hd, FrAll.monoN h k⟩
  | .lst ds, _, r => by
    obtain ⟨a, xs, e, ha, hh, k⟩ := r
    obtain ⟨h1, o', h2, s⟩ := h _ _ ha hh
    rw [ZI.sp_lst s] at h2
    exact ⟨a, xs, e, h1, h2, FrAll.monoN h k⟩
  | .dic ks ds, _, r => by
    obtain ⟨a, xs, e, ha, hh, ek, k⟩ := r
    rcases hh with hh | ⟨o, hh⟩
    · obtain ⟨h1, o', h2, s⟩ := h _ _ ha hh
      rw [ZI.sp_dK s] at h2
      exact ⟨a, xs, e, h1, .inl h2, ek, FrAll.monoN h k⟩
    · obtain ⟨h1, o', h2, s⟩ := h _ _ ha hh
      rw [ZI.sp_frz s] at h2
      exact ⟨a, xs, e, h1, .inr ⟨o, h2⟩, ek, FrAll.monoN h k⟩
theorem FrAll.monoN {A A' : Addr → Prop} {H H' : Hp} (h : ∀ a o, A a → H a = some o → A' a ∧ ∃ o', H' a = some o' ∧ sp A' H' a o o') : ∀ {ds : List Dt} {vs : List V}, FrAll A H ds vs → FrAll A' H' ds vs
  | [], _, r => r
  | d :: ds, _, r => by
    obtain ⟨v, ws, e, h1, h2⟩ := r
    exact ⟨v, ws, e, Fr.monoN h h1, FrAll.monoN h h2⟩
end
theorem Fr.mono {A A' : Addr → Prop} {H H' : Hp} (h : ∀ a o, A a → H a = some o → A' a ∧ H' a = some o) {d : Dt} {v : V} (r : Fr A H d v) : Fr A' H' d v := r.monoN fun a o ha ho => ⟨(h a o ha ho).1, o, (h a o ha ho).2, ZI.sp_rfl o⟩
theorem FrAll.mono {A A' : Addr → Prop} {H H' : Hp} (h : ∀ a o, A a → H a = some o → A' a ∧ H' a = some o) {ds : List Dt} {vs : List V} (r : FrAll A H ds vs) : FrAll A' H' ds vs := r.monoN fun a o ha ho => ⟨(h a o ha ho).1, o, (h a o ha ho).2, ZI.sp_rfl o⟩
section
variable {A : Addr → Prop} {H : Hp}
theorem FrAll.nil : FrAll A H [] [] := rfl
theorem FrAll.cons {d : Dt} {v : V} {ds : List Dt} {vs : List V} (h : Fr A H d v) (k : FrAll A H ds vs) : FrAll A H (d :: ds) (v :: vs) := ⟨v, vs, rfl, h, k⟩
theorem FrAll.length : ∀ {ds : List Dt} {vs : List V}, FrAll A H ds vs → vs.length = ds.length
  | [], _, r => by cases r; rfl
  | d :: ds, _, r => by
    obtain ⟨v, ws, rfl, h1, h2⟩ := r
    simp [FrAll.length h2]
theorem FrAll.get : ∀ {ds : List Dt} {vs : List V} {i : Nat} {d : Dt}, FrAll A H ds vs → ds[i]? = some d → ∃ v, vs[i]? = some v ∧ Fr A H d v
  | [], _, i, d, r, h => by simp at h
  | e :: ds, _, i, d, r, h => by
    obtain ⟨v, ws, rfl, h1, h2⟩ := r
    cases i with
    | zero => simp at h; subst h; exact ⟨v, rfl, h1⟩
    | succ i => exact FrAll.get (i := i) h2 (by simpa using h)
theorem FrAll.get' {ds : List Dt} {vs : List V} {i : Nat} {v : V} (r : FrAll A H ds vs) (h : vs[i]? = some v) : ∃ d, ds[i]? = some d ∧ Fr A H d v := by
  have hi := (List.getElem?_eq_some_iff.mp h).1
  rw [r.length] at hi
  obtain ⟨w, hw, k⟩ := r.get (List.getElem?_eq_getElem hi)
  rw [h] at hw; cases hw
  exact ⟨_, List.getElem?_eq_getElem hi, k⟩
theorem FrAll.append : ∀ {ds es : List Dt} {vs ws : List V}, FrAll A H ds vs → FrAll A H es ws → FrAll A H (ds ++ es) (vs ++ ws)
  | [], _, _, _, r, k => by cases r; exact k
  | d :: ds, _, _, _, r, k => by
    obtain ⟨v, us, rfl, h1, h2⟩ := r
    exact ⟨v, _, rfl, h1, h2.append k⟩
theorem FrAll.of {ds : List Dt} : ∀ {vs : List V}, ds.length = vs.length → (∀ (i : Nat) (d : Dt) (v : V), ds[i]? = some d → vs[i]? = some v → Fr A H d v) → FrAll A H ds vs := by
  induction ds with
  | nil => intro vs hl _; exact List.eq_nil_of_length_eq_zero hl.symm
  | cons d ds ih =>
    intro vs hl h
    cases vs with
    | nil => cases hl
    | cons v vs => exact ⟨v, vs, rfl, h 0 d v rfl rfl, ih (by simpa using hl) fun i d v h1 h2 => h (i + 1) d v (by simpa using h1) (by simpa using h2)⟩
theorem FrAll.take {ds : List Dt} {vs : List V} (n : Nat) (r : FrAll A H ds vs) : FrAll A H (ds.take n) (vs.take n) := FrAll.of (by simp [r.length]) fun i d v h1 h2 => by
  rw [List.getElem?_take] at h1 h2
  split at h1
  · rw [if_pos (by assumption)] at h2
    obtain ⟨w, hw, k⟩ := r.get h1
    rw [h2] at hw; cases hw; exact k
  · cases h1
theorem FrAll.drop {ds : List Dt} {vs : List V} (n : Nat) (r : FrAll A H ds vs) : FrAll A H (ds.drop n) (vs.drop n) := FrAll.of (by simp [r.length]) fun i d v h1 h2 => by
  rw [List.getElem?_drop] at h1 h2
  obtain ⟨w, hw, k⟩ := r.get h1
  rw [h2] at hw; cases hw; exact k
theorem FrAll.reverse : ∀ {ds : List Dt} {vs : List V}, FrAll A H ds vs → FrAll A H ds.reverse vs.reverse
  | [], _, r => by cases r; exact rfl
  | d :: ds, _, r => by
    obtain ⟨v, us, rfl, h1, h2⟩ := r
    rw [List.reverse_cons, List.reverse_cons]
    exact h2.reverse.append (.cons h1 .nil)
theorem FrAll.set {ds : List Dt} {vs : List V} {d : Dt} {v : V} (n : Nat) (r : FrAll A H ds vs) (h : Fr A H d v) : FrAll A H (ds.set n d) (vs.set n v) := FrAll.of (by simp [r.length]) fun i d' v' h1 h2 => by
  rw [List.getElem?_set] at h1 h2
  by_cases c : n = i
  · rw [if_pos c] at h1 h2
    split at h1
    · rw [if_pos (by rw [r.length]; assumption)] at h2
      cases h1; cases h2; exact h
    · cases h1
  · rw [if_neg c] at h1 h2
    obtain ⟨w, hw, k⟩ := r.get h1
    rw [h2] at hw; cases hw; exact k
theorem FrAll.erase {ds : List Dt} {vs : List V} (n : Nat) (r : FrAll A H ds vs) : FrAll A H (ds.eraseIdx n) (vs.eraseIdx n) := by
  rw [List.eraseIdx_eq_take_drop_succ, List.eraseIdx_eq_take_drop_succ]
  exact (r.take n).append (r.drop (n + 1))
theorem FrAll.strs : ∀ (l : List (List Nat)), FrAll A H (l.map .str) (l.map fun x => Tx x)
  | [] => rfl
  | x :: l => ⟨_, _, rfl, rfl, FrAll.strs l⟩
theorem FrAll.strs_inv : ∀ {l : List (List Nat)} {vs : List V}, FrAll A H (l.map .str) vs → vs = l.map fun x => Tx x
  | [], _, r => r
  | x :: l, _, r => by
    obtain ⟨v, ws, rfl, h1, h2⟩ := r
    rw [FrAll.strs_inv h2]
    exact congrArg (· :: _) h1
theorem FrAll.bls_inv : ∀ {l : List Bool} {vs : List V}, FrAll A H (l.map .bl) vs → vs = l.map V.bl
  | [], _, r => r
  | x :: l, _, r => by
    obtain ⟨v, ws, rfl, h1, h2⟩ := r
    rw [FrAll.bls_inv h2]
    exact congrArg (· :: _) h1
theorem FrAll.ints_inv : ∀ {l : List Int} {vs : List V}, FrAll A H (l.map .int) vs → vs = l.map V.int
  | [], _, r => r
  | x :: l, _, r => by
    obtain ⟨v, ws, rfl, h1, h2⟩ := r
    rw [FrAll.ints_inv h2]
    exact congrArg (· :: _) h1
end
theorem Fr.dom {A : Addr → Prop} {H : Hp} {d : Dt} {v : V} (r : Fr A H d v) : Fr (fun a => A a ∧ H a ≠ none) H d v := r.mono fun a o ha ho => ⟨⟨ha, by rw [ho]; simp⟩, ho⟩
theorem FrAll.dom {A : Addr → Prop} {H : Hp} {d : List Dt} {v : List V} (r : FrAll A H d v) : FrAll (fun a => A a ∧ H a ≠ none) H d v := r.mono fun a o ha ho => ⟨⟨ha, by rw [ho]; simp⟩, ho⟩
/-- an object of one's own -/
def At (A : Addr → Prop) (H : Hp) : Dt → Addr → Prop
  | .lst ds, p => ∃ xs, H p = some (.lst xs) ∧ FrAll A H ds xs
  | .dic ks ds, p => ∃ ws : List (Key × V), H p = some (.dK ws) ∧ ws.map (·.1) = ks ∧ FrAll A H ds (ws.map (·.2))
  | _, _ => False
theorem At.to_fr {A : Addr → Prop} {H : Hp} {d : Dt} {p : Addr} (h : At A H d p) (hp : A p) : Fr A H d (.ref p) := by
  cases d <;> try exact h.elim
  · obtain ⟨xs, h1, h2⟩ := h
    exact ⟨p, xs, rfl, hp, h1, h2⟩
  · obtain ⟨xs, h1, h2, h3⟩ := h
    exact ⟨p, xs, rfl, hp, .inl h1, h2, h3⟩
theorem At.monoN {A A' : Addr → Prop} {H H' : Hp} {d : Dt} {p : Addr} (h : At A H d p) (k : ∀ a o, A a → H a = some o → A' a ∧ ∃ o', H' a = some o' ∧ sp A' H' a o o') (kp : ∀ o, H p = some o → ∃ o', H' p = some o' ∧ sp A' H' p o o') : At A' H' d p := by
  cases d <;> try exact h.elim
  · obtain ⟨xs, h1, h2⟩ := h
    obtain ⟨o', h3, s⟩ := kp _ h1
    rw [ZI.sp_lst s] at h3
    exact ⟨xs, h3, h2.monoN k⟩
  · obtain ⟨xs, h1, h2, h3⟩ := h
    obtain ⟨o', h4, s⟩ := kp _ h1
    rw [ZI.sp_dK s] at h4
    exact ⟨xs, h4, h2, h3.monoN k⟩
theorem At.mono {A A' : Addr → Prop} {H H' : Hp} {d : Dt} {p : Addr} (h : At A H d p) (k : ∀ a o, A a → H a = some o → A' a ∧ H' a = some o) (kp : ∀ o, H p = some o → H' p = some o) : At A' H' d p :=
  h.monoN (fun a o ha ho => ⟨(k a o ha ho).1, o, (k a o ha ho).2, ZI.sp_rfl o⟩) fun o ho => ⟨o, kp o ho, ZI.sp_rfl o⟩
/-- a list or a dict stands there -/
theorem At.kind {A : Addr → Prop} {H : Hp} {d : Dt} {p : Addr} (h : At A H d p) : (∃ xs, H p = some (.lst xs)) ∨ ∃ ws, H p = some (.dK ws) := by
  cases d <;> try exact h.elim
  · obtain ⟨xs, h1, h2⟩ := h
    exact .inl ⟨xs, h1⟩
  · obtain ⟨xs, h1, h2, h3⟩ := h
    exact .inr ⟨xs, h1⟩
theorem At.some {A : Addr → Prop} {H : Hp} {d : Dt} {p : Addr} (h : At A H d p) : H p ≠ none := by
  cases d <;> try exact h.elim
  · obtain ⟨xs, h1, h2⟩ := h
    rw [h1]; simp
  · obtain ⟨xs, h1, h2, h3⟩ := h
    rw [h1]; simp
/-- kinds of objects that may be owned -/
def ownO : HO → Bool
  | .lst _ => true
  | .dK _ => true
  | .ins _ _ _ => true
  | _ => false
/-- kinds that stay, whatever else happens -/
def stayO : HO → Bool
  | .lst _ => true
  | .tup _ => true
  | .frz _ (.tup _) => true
  | _ => false
mutual
/-- data without dicts and special objects -/
def FrS (A : Addr → Prop) (H : Hp) : Dt → V → Prop
  | .non, v => v = .non
  | .bl b, v => v = .bl b
  | .int i, v => v = .int i
  | .str l, v => v = Tx l
  | .tup ds, v => ∃ a xs, v = .ref a ∧ A a ∧ Rd H a (.tup xs) ∧ FrSs A H ds xs
  | .tpk ds, v => ∃ (a : Addr) (xs : List V) (o : Obj), v = .ref a ∧ A a ∧ H a = some (.frz o (.tup xs)) ∧ o.dict = none ∧ FrSs A H ds xs
  | .lst ds, v => ∃ a xs, v = .ref a ∧ A a ∧ H a = some (.lst xs) ∧ FrSs A H ds xs
  | .dic _ _, _ => False
  | .dice, _ => False
  | .val _, _ => False
  | .ob _ _, _ => False
def FrSs (A : Addr → Prop) (H : Hp) : List Dt → List V → Prop
  | [], vs => vs = []
  | d :: ds, vs => ∃ v ws, vs = v :: ws ∧ FrS A H d v ∧ FrSs A H ds ws
end
mutual
theorem FrS.mono {A A' : Addr → Prop} {H H' : Hp} (h : ∀ a o, A a → H a = some o → stayO o = true → A' a ∧ H' a = some o) : ∀ {d : Dt} {v : V}, FrS A H d v → FrS A' H' d v
  | .non, _, r => r
  | .bl _, _, r => r
  | .int _, _, r => r
  | .str _, _, r => r
  | .tup ds, _, ⟨a, xs, e, ha, hh, k⟩ => by
    rcases hh with hh | ⟨o, hh⟩
    · obtain ⟨h1, h2⟩ := h _ _ ha hh rfl
      exact ⟨a, xs, e, h1, .inl h2, FrSs.mono h k⟩
    · obtain ⟨h1, h2⟩ := h _ _ ha hh rfl
      exact ⟨a, xs, e, h1, .inr ⟨o, h2⟩, FrSs.mono h k⟩
  | .tpk ds, _, ⟨a, xs, o, e, ha, hh, hd, k⟩ => by
    obtain ⟨h1, h2⟩ := h _ _ ha hh rfl
    exact ⟨a, xs, o, e, h1, h2, hd, FrSs.mono h k⟩
  | .lst ds, _, ⟨a, xs, e, ha, hh, k⟩ => by
    obtain ⟨h1, h2⟩ := h _ _ ha hh rfl
    exact ⟨a, xs, e, h1, h2, FrSs.mono h k⟩
  | .dic _ _, _, r => False.elim r
  | .dice, _, r => False.elim r
  | .val _, _, r => False.elim r
  | .ob _ _, _, r => False.elim r
theorem FrSs.mono {A A' : Addr → Prop} {H H' : Hp} (h : ∀ a o, A a → H a = some o → stayO o = true → A' a ∧ H' a = some o) : ∀ {ds : List Dt} {vs : List V}, FrSs A H ds vs → FrSs A' H' ds vs
  | [], _, r => r
  | _ :: _, _, ⟨v, ws, e, h1, h2⟩ => ⟨v, ws, e, FrS.mono h h1, FrSs.mono h h2⟩
end
mutual
theorem FrS.fr {A : Addr → Prop} {H : Hp} : ∀ {d : Dt} {v : V}, FrS A H d v → Fr A H d v
  | .non, _, r => r
  | .bl _, _, r => r
  | .int _, _, r => r
  | .str _, _, r => r
  | .tup ds, _, ⟨a, xs, e, ha, hh, k⟩ => ⟨a, xs, e, ha, hh, FrSs.fr k⟩
  | .tpk ds, _, ⟨a, xs, o, e, ha, hh, hd, k⟩ => ⟨a, xs, o, e, ha, hh, hd, FrSs.fr k⟩
  | .lst ds, _, ⟨a, xs, e, ha, hh, k⟩ => ⟨a, xs, e, ha, hh, FrSs.fr k⟩
  | .dic _ _, _, r => False.elim r
  | .dice, _, r => False.elim r
  | .val _, _, r => False.elim r
  | .ob _ _, _, r => False.elim r
theorem FrSs.fr {A : Addr → Prop} {H : Hp} : ∀ {ds : List Dt} {vs : List V}, FrSs A H ds vs → FrAll A H ds vs
  | [], _, r => r
  | _ :: _, _, ⟨v, ws, e, h1, h2⟩ => ⟨v, ws, e, FrS.fr h1, FrSs.fr h2⟩
end
/-- an object of one's own with data that stay -/
def AtS (A : Addr → Prop) (H : Hp) : Dt → Addr → Prop
  | .lst ds, p => ∃ xs, H p = some (.lst xs) ∧ FrSs A H ds xs
  | .dic ks ds, p => ∃ ws : List (Key × V), H p = some (.dK ws) ∧ ws.map (·.1) = ks ∧ FrSs A H ds (ws.map (·.2))
  | _, _ => False
theorem AtS.at {A : Addr → Prop} {H : Hp} {d : Dt} {p : Addr} (h : AtS A H d p) : At A H d p := by
  cases d <;> try exact h.elim
  · obtain ⟨xs, h1, h2⟩ := h
    exact ⟨xs, h1, h2.fr⟩
  · obtain ⟨xs, h1, h2, h3⟩ := h
    exact ⟨xs, h1, h2, h3.fr⟩
theorem AtS.mono {A A' : Addr → Prop} {H H' : Hp} {d : Dt} {p : Addr} (h : AtS A H d p) (k : ∀ a o, A a → H a = some o → stayO o = true → A' a ∧ H' a = some o) (kp : ∀ o, H p = some o → H' p = some o) : AtS A' H' d p := by
  cases d <;> try exact h.elim
  · obtain ⟨xs, h1, h2⟩ := h
    exact ⟨xs, kp _ h1, h2.mono k⟩
  · obtain ⟨xs, h1, h2, h3⟩ := h
    exact ⟨xs, kp _ h1, h2, h3.mono k⟩
/-- several objects of one's own, under one value -/
structure Cl where
  v : V
  as : List Addr
  φ : (Addr → Prop) → Hp → Prop
  lk : Dt → V → Prop := fun _ _ => False
  dv : Option Dt := none
  own : ∀ {A : Addr → Prop} {H : Hp}, φ A H → ∀ q ∈ as, ∃ o, H q = some o ∧ ownO o = true
  mono : ∀ {A A' : Addr → Prop} {H H' : Hp}, (∀ a o, A a → H a = some o → stayO o = true → A' a ∧ H' a = some o) → (∀ q ∈ as, ∀ o, H q = some o → H' q = some o) → φ A H → φ A' H'
  look : ∀ {A : Addr → Prop} {H : Hp} {d : Dt} {w : V}, φ A H → lk d w → ∃ p, w = .ref p ∧ p ∈ as ∧ AtS A H d p := by intro _ _ _ _ _ h; exact h.elim
  data : ∀ {A B : Addr → Prop} {H : Hp} {d : Dt}, φ A H → dv = some d → (∀ a, A a → B a) → (∀ q ∈ as, B q) → FrS B H d v := by intro _ _ _ _ _ h; cases h
inductive Sl where
  | un | fz (d : Dt) | ow (d : Dt) | cl (C : Cl)
abbrev PSt := List Sl
abbrev Pc := Sl × Option V
def ownA : Pc → List Addr
  | (.ow _, some (.ref p)) => [p]
  | (.cl C, _) => C.as
  | _ => []
def owns (L : List Pc) : List Addr := L.flatMap ownA
/-- where a def's walk stands: the heap at first, the places that its data may lie at -/
structure Ctx where
  H0 : Hp
  B : Addr → Prop
  nb : ∀ a, H0 a = none → B a
  Zd : Addr → Prop
  zd : ∀ a, Zd a → H0 a ≠ none
/-- objects that may be special ones -/
def zO : HO → Bool
  | .lst _ => false
  | .dK _ => false
  | .frz _ _ => false
  | .ins _ _ _ => false
  | _ => true
/-- what is always so of the special objects: those at first, and new ones -/
def Iv (c : Ctx) (H : Hp) : Prop := ∃ Hz, ZI.Z Hz ∧ ∀ b o, Hz b = some o → H b = some o ∧ zO o = true ∧ (c.Zd b ∨ c.H0 b = none)
theorem Iv.ex {c : Ctx} {H H' : Hp} (h : Iv c H) (e : Ex H H') : Iv c H' := by
  obtain ⟨Hz, h1, h2⟩ := h
  exact ⟨Hz, h1, fun b o k => ⟨e _ _ (h2 b o k).1, (h2 b o k).2⟩⟩
/-- an object that is no special one is changed -/
theorem Iv.exB {c : Ctx} {H H' : Hp} {p : Addr} (h : Iv c H) (e : ExB p H H') (hp : (∃ o, H p = some o ∧ zO o = false) ∨ (¬ c.Zd p ∧ c.H0 p ≠ none)) : Iv c H' := by
  obtain ⟨Hz, h1, h2⟩ := h
  refine ⟨Hz, h1, fun b o k => ?_⟩
  obtain ⟨g1, g2, g3⟩ := h2 b o k
  refine ⟨e _ _ (fun z => ?_) g1, g2, g3⟩
  subst z
  rcases hp with ⟨u, q1, q2⟩ | ⟨q1, q2⟩
  · rw [g1] at q1
    cases q1
    rw [g2] at q2
    cases q2
  · rcases g3 with g3 | g3
    · exact q1 g3
    · exact q2 g3
def Al (c : Ctx) (L : List Pc) (a : Addr) : Prop := c.B a ∧ a ∉ owns L
def PcOk (c : Ctx) (A : Addr → Prop) (H : Hp) : Pc → Prop
  | (.un, _) => True
  | (.fz d, some v) => Fr A H d v
  | (.ow d, some (.ref p)) => c.H0 p = none ∧ At A H d p
  | (.cl C, some v) => v = C.v ∧ (∀ q ∈ C.as, c.H0 q = none) ∧ C.φ A H
  | _ => False
theorem fix_own {o : HO} (h : ownO o = true) : fixO o = true := by cases o <;> first | rfl | cases h
theorem fix_stay {o : HO} (h : stayO o = true) : fixO o = true := by cases o <;> first | rfl | cases h
theorem PcOk.monoN {c : Ctx} {A A' : Addr → Prop} {H H' : Hp} {x : Pc} (h : PcOk c A H x) (k : ∀ a o, A a → H a = some o → A' a ∧ ∃ o', H' a = some o' ∧ sp A' H' a o o') (kp : ∀ p, p ∈ ownA x → ∀ o, H p = some o → ∃ o', H' p = some o' ∧ sp A' H' p o o') : PcOk c A' H' x := by
  obtain ⟨s, v⟩ := x
  cases s with
  | un => trivial
  | fz d => cases v with
    | none => exact h.elim
    | some v => exact Fr.monoN k h
  | ow d => cases v with
    | none => exact h.elim
    | some v =>
      cases v <;> try exact h.elim
      exact ⟨h.1, h.2.monoN k (kp _ (List.mem_singleton.mpr rfl))⟩
  | cl C => cases v with
    | none => exact h.elim
    | some v =>
      refine ⟨h.1, h.2.1, C.mono (fun a o ha ho hs => ?_) (fun q hq o ho => ?_) h.2.2⟩
      · obtain ⟨h1, o', h2, s⟩ := k a o ha ho
        rw [ZI.sp_fix (fix_stay hs) s] at h2
        exact ⟨h1, h2⟩
      · obtain ⟨o', h2, s⟩ := kp q hq o ho
        obtain ⟨o1, g1, g2⟩ := C.own h.2.2 q hq
        rw [ho] at g1
        cases g1
        rw [ZI.sp_fix (fix_own g2) s] at h2
        exact h2
theorem PcOk.mono {c : Ctx} {A A' : Addr → Prop} {H H' : Hp} {x : Pc} (h : PcOk c A H x) (k : ∀ a o, A a → H a = some o → A' a ∧ H' a = some o) (kp : ∀ p, p ∈ ownA x → ∀ o, H p = some o → H' p = some o) : PcOk c A' H' x :=
  h.monoN (fun a o ha ho => ⟨(k a o ha ho).1, o, (k a o ha ho).2, ZI.sp_rfl o⟩) fun p hp o ho => ⟨o, kp p hp o ho, ZI.sp_rfl o⟩
theorem owns_sub {L L' : List Pc} (e : L'.Sublist L) : (owns L').Sublist (owns L) := by
  induction e with
  | slnil => exact List.Sublist.refl _
  | cons a _ ih => exact ih.trans (List.sublist_append_right _ _)
  | cons_cons a _ ih => exact (List.Sublist.refl _).append ih
theorem mem_owns {L : List Pc} {x : Pc} {q : Addr} (hx : x ∈ L) (hq : q ∈ ownA x) : q ∈ owns L := List.mem_flatMap.mpr ⟨x, hx, hq⟩
theorem owns_app (L L' : List Pc) : owns (L ++ L') = owns L ++ owns L' := List.flatMap_append ..
structure RelL (c : Ctx) (L : List Pc) (H : Hp) : Prop where
  nd : (owns L).Nodup
  ok : ∀ x ∈ L, PcOk c (Al c L) H x
  old : ExN c.B c.H0 H
  iv : Iv c H
section
variable {c : Ctx} {L L' : List Pc} {H H' : Hp} {x : Pc} {d d' : Dt} {v : V} {p : Addr}
theorem RelL.perm (h : RelL c L H) (e : L.Perm L') : RelL c L' H := by
  have ep : (owns L).Perm (owns L') := e.flatMap_right _
  refine ⟨ep.nodup_iff.mp h.nd, fun x hx => (h.ok x (e.mem_iff.mpr hx)).mono (fun a o ha ho => ⟨⟨ha.1, fun z => ha.2 (ep.mem_iff.mpr z)⟩, ho⟩) fun _ _ _ q => q, h.old, h.iv⟩
theorem RelL.sub (h : RelL c L H) (e : L'.Sublist L) : RelL c L' H := by
  have ep : (owns L').Sublist (owns L) := owns_sub e
  exact ⟨ep.nodup h.nd, fun x hx => (h.ok x (e.subset hx)).mono (fun a o ha ho => ⟨⟨ha.1, fun z => ha.2 (ep.subset z)⟩, ho⟩) fun _ _ _ q => q, h.old, h.iv⟩
theorem RelL.drop (h : RelL c (x :: L) H) : RelL c L H := h.sub (List.sublist_cons_self _ _)
theorem pc_own {A : Addr → Prop} {q : Addr} (h : PcOk c A H x) (e : q ∈ ownA x) : c.H0 q = none ∧ ∃ o, H q = some o ∧ ownO o = true := by
  obtain ⟨s, w⟩ := x
  cases s with
  | un => cases e
  | fz d => cases e
  | ow d => cases w with
    | none => cases e
    | some w =>
      cases w <;> try (cases e; done)
      cases List.mem_singleton.mp e
      refine ⟨h.1, ?_⟩
      rcases h.2.kind with ⟨xs, q⟩ | ⟨ws, q⟩
      · exact ⟨_, q, rfl⟩
      · exact ⟨_, q, rfl⟩
  | cl C => cases w with
    | none => exact h.elim
    | some w => exact ⟨h.2.1 _ e, C.own h.2.2 _ e⟩
theorem owns_ob {q : Addr} (h : RelL c L H) (hq : q ∈ owns L) : c.H0 q = none ∧ ∃ o, H q = some o ∧ ownO o = true := by
  obtain ⟨x, hx, e⟩ := List.mem_flatMap.mp hq
  exact pc_own (h.ok x hx) e
theorem owns_in {q : Addr} (h : RelL c L H) (hq : q ∈ owns L) : c.H0 q = none ∧ H q ≠ none := by
  obtain ⟨h1, o, h2, _⟩ := owns_ob h hq
  exact ⟨h1, by rw [h2]; simp⟩
theorem RelL.ex (h : RelL c L H) (e : Ex H H') : RelL c L H' :=
  ⟨h.nd, fun x hx => (h.ok x hx).mono (fun a o ha ho => ⟨ha, e _ _ ho⟩) fun _ _ _ q => e _ _ q, h.old.trans (.of (B := c.B) e) (fun _ z => z), h.iv.ex e⟩
/-- what is owned is no tuple -/
theorem owns_no (h : RelL c L H) {q : Addr} (hq : q ∈ owns L) {u : HO} (hu : H q = some u) : tupO u = false := by
  obtain ⟨_, o, h1, h2⟩ := owns_ob h hq
  rw [hu] at h1
  cases h1
  cases u <;> first | rfl | cases h2
theorem RelL.tupk {B : Addr → Prop} (h : RelL c L H) (e : ExN B H H') (k : ∀ x, B x → c.B x) : TupK B H' (Al c L) H' := fun a u ha hu ht => ⟨⟨k a ha, fun hm => by
    obtain ⟨q1, q2⟩ := owns_in h hm
    cases q : H a with
    | none => exact q2 q
    | some o =>
      obtain ⟨o', g1, g2⟩ := e a o q
      rw [hu] at g1
      cases g1
      have : o = u := ZI.sp_fix' (by cases u <;> first | rfl | cases ht) g2
      have := owns_no h hm (this ▸ q)
      rw [this] at ht; cases ht⟩, hu⟩
theorem RelL.exN {B : Addr → Prop} (h : RelL c L H) (e : ExN B H H') (k : ∀ x, B x → c.B x) (i : Iv c H') : RelL c L H' := by
  have key := h.tupk e k
  have e2 : ∀ b o, H b = some o → ∃ o', H' b = some o' ∧ sp (Al c L) H' b o o' := fun b o hb => let ⟨o', g1, g2⟩ := e b o hb; ⟨o', g1, ZI.sp_mono g2 key⟩
  exact ⟨h.nd, fun x hx => (h.ok x hx).monoN (fun a o ha ho => ⟨ha, e2 a o ho⟩) fun p _ o q => e2 p o q, h.old.trans e k, i⟩
theorem RelL.fr (h : RelL c L H) (r : Fr (Al c L) H d v) : RelL c ((.fz d, some v) :: L) H :=
  ⟨h.nd, fun x hx => by
    rcases List.mem_cons.mp hx with rfl | hx
    · exact r
    · exact h.ok x hx, h.old, h.iv⟩
theorem RelL.h0 (h : RelL c L H) {q : Addr} (hq : H q = none) : c.H0 q = none := h.old.none hq
theorem RelL.new (h : RelL c L H) (e : Ex H H') (hp : H p = none) (r : At (fun a => Al c L a ∧ a ≠ p) H' d p) : RelL c ((.ow d, some (.ref p)) :: L) H' := by
  have hn : p ∉ owns L := fun z => (owns_in h z).2 hp
  have eo : owns ((.ow d, some (.ref p)) :: L) = p :: owns L := rfl
  have al : ∀ a, Al c L a ∧ a ≠ p → Al c ((.ow d, some (.ref p)) :: L) a := fun a ⟨z1, z2⟩ => ⟨z1.1, by rw [eo]; exact fun q => (List.mem_cons.mp q).elim z2 z1.2⟩
  refine ⟨by rw [eo]; exact List.nodup_cons.mpr ⟨hn, h.nd⟩, fun x hx => ?_, h.old.trans (.of (B := c.B) e) (fun _ z => z), h.iv.ex e⟩
  rcases List.mem_cons.mp hx with rfl | hx
  · exact ⟨h.h0 hp, r.mono (fun a o ha ho => ⟨al a ha, ho⟩) fun _ q => q⟩
  · exact (h.ok x hx).mono (fun a o ha ho => ⟨al a ⟨ha, fun z => by subst z; rw [hp] at ho; cases ho⟩, e _ _ ho⟩) fun _ _ _ q => e _ _ q
/-- what is owned is frozen -/
theorem RelL.fz (h : RelL c ((.ow d, some v) :: L) H) : RelL c ((.fz d, some v) :: L) H := by
  have h1 := h.ok _ (List.mem_cons_self ..)
  cases v <;> try exact h1.elim
  rename_i p
  obtain ⟨q1, q2⟩ := h1
  have eo : owns ((.ow d, some (.ref p)) :: L) = p :: owns L := rfl
  have hd := h.nd
  rw [eo] at hd
  refine h.drop.fr ((q2.mono (fun a o ha ho => ⟨?_, ho⟩) fun _ q => q).to_fr ⟨c.nb _ q1, (List.nodup_cons.mp hd).1⟩)
  exact ⟨ha.1, fun z => ha.2 (by rw [eo]; exact List.mem_cons_of_mem _ z)⟩
theorem RelL.own_at (h : RelL c ((.ow d, some v) :: L) H) : ∃ p, v = .ref p ∧ c.H0 p = none ∧ At (Al c ((.ow d, some v) :: L)) H d p := by
  have h1 := h.ok _ (List.mem_cons_self ..)
  cases v <;> try exact h1.elim
  exact ⟨_, rfl, h1.1, h1.2⟩
/-- the owned object is changed -/
theorem RelL.mut (h : RelL c ((.ow d, some (.ref p)) :: L) H) (e : ExB p H H') (r : At (Al c ((.ow d, some (.ref p)) :: L)) H' d' p) : RelL c ((.ow d', some (.ref p)) :: L) H' := by
  have eo : ∀ d, owns ((.ow d, some (.ref p)) :: L) = p :: owns L := fun _ => rfl
  have hd := h.nd
  rw [eo] at hd
  have h1 := h.ok _ (List.mem_cons_self ..)
  have e1 : Al c ((.ow d, some (.ref p)) :: L) = Al c ((.ow d', some (.ref p)) :: L) := by
    funext a; unfold Al; rw [eo, eo]
  refine ⟨by rw [eo]; exact hd, fun x hx => ?_, fun b o hb => ?_, h.iv.exB e (.inl ?_)⟩
  · rcases List.mem_cons.mp hx with rfl | hx2
    · exact ⟨h1.1, e1 ▸ r⟩
    rw [← e1]
    refine (h.ok x (List.mem_cons_of_mem _ hx2)).mono (fun a o ha ho => ⟨ha, e _ _ (fun z => ha.2 (by rw [eo, z]; exact List.mem_cons_self ..)) ho⟩) fun q hq o ho => e _ _ (fun z => ?_) ho
    subst z
    exact (List.nodup_cons.mp hd).1 (mem_owns hx2 hq)
  · obtain ⟨o', g1, g2⟩ := h.old _ _ hb
    refine ⟨o', e b o' (fun z => by subst z; rw [h1.1] at hb; cases hb) g1, ZI.sp_mono g2 fun x u hx hu ht => ⟨hx, e x u (fun z => ?_) hu⟩⟩
    subst z
    have := owns_no h (by rw [eo]; exact List.mem_cons_self ..) hu
    rw [this] at ht; cases ht
  · rcases h1.2.kind with ⟨xs, q⟩ | ⟨ws, q⟩
    · exact ⟨_, q, rfl⟩
    · exact ⟨_, q, rfl⟩
/-- what a callee gives, or any operation that changes nothing -/
def subCtx (c : Ctx) (L : List Pc) (H : Hp) : Ctx := ⟨H, fun a => Al c L a ∨ H a = none, fun _ => .inr, fun b => H b ≠ none ∧ (c.Zd b ∨ c.H0 b = none), fun _ h => h.1⟩
theorem Iv.sub (h : RelL c L H) : Iv (subCtx c L H) H := by
  obtain ⟨Hz, h1, h2⟩ := h.iv
  exact ⟨Hz, h1, fun b o k => ⟨(h2 b o k).1, (h2 b o k).2.1, .inl ⟨by rw [(h2 b o k).1]; simp, (h2 b o k).2.2⟩⟩⟩
theorem PcOk.ctx {A : Addr → Prop} {c' : Ctx} (h : PcOk c A H x) (k : ∀ q ∈ ownA x, c'.H0 q = none) : PcOk c' A H x := by
  obtain ⟨s, w⟩ := x
  cases s with
  | un => trivial
  | fz d => cases w with
    | none => exact h.elim
    | some w => exact h
  | ow d => cases w with
    | none => exact h.elim
    | some w =>
      cases w <;> try exact h.elim
      exact ⟨k _ (List.mem_singleton.mpr rfl), h.2⟩
  | cl C => cases w with
    | none => exact h.elim
    | some w => exact ⟨h.1, k, h.2.2⟩
/-- .. some pieces are lent -/
def lendCtx (c : Ctx) (N L : List Pc) (H : Hp) : Ctx := ⟨fun a => if a ∈ owns N then none else H a, fun a => Al c (N ++ L) a ∨ a ∈ owns N ∨ H a = none, fun a h => .inr (by
  by_cases e : a ∈ owns N
  · exact .inl e
  · exact .inr ((if_neg e).symm.trans h)), fun b => (H b ≠ none ∧ b ∉ owns N) ∧ (c.Zd b ∨ c.H0 b = none), fun b h => by
  show (if b ∈ owns N then none else H b) ≠ none
  rw [if_neg h.1.2]; exact h.1.1⟩
section
variable {M N : List Pc}
theorem lend_none {q : Addr} (h : (lendCtx c N L H).H0 q = none) : q ∈ owns N ∨ H q = none := by
  by_cases e : q ∈ owns N
  · exact .inl e
  · exact .inr ((if_neg e).symm.trans h)
theorem lend_at {q : Addr} (h : q ∉ owns N) : (lendCtx c N L H).H0 q = H q := if_neg h
theorem owns_disj (h : RelL c (N ++ L) H) {q : Addr} (h1 : q ∈ owns N) (h2 : q ∈ owns L) : False := by
  have := h.nd
  rw [owns_app] at this
  exact (List.nodup_append.mp this).2.2 q h1 q h2 rfl
theorem owns_in1 (h : RelL c (N ++ L) H) {q : Addr} (h1 : q ∈ owns N) : c.H0 q = none ∧ H q ≠ none := owns_in h (by rw [owns_app]; exact List.mem_append_left _ h1)
theorem owns_in2 (h : RelL c (N ++ L) H) {q : Addr} (h1 : q ∈ owns L) : c.H0 q = none ∧ H q ≠ none := owns_in h (by rw [owns_app]; exact List.mem_append_right _ h1)
theorem RelL.callG (h : RelL c (N ++ L) H) (k : RelL (lendCtx c N L H) M H') : RelL c (M ++ L) H' := by
  have hm : ∀ q ∈ owns M, q ∈ owns N ∨ H q = none := fun q hq => lend_none (owns_in k hq).1
  have hm0 : ∀ q ∈ owns M, c.H0 q = none := fun q hq => (hm q hq).elim (fun z => (owns_in1 h z).1) fun z => h.h0 z
  have e1 : ∀ b o, H b = some o → b ∉ owns N → ∃ o', H' b = some o' ∧ sp (lendCtx c N L H).B H' b o o' := fun b o hb hn => k.old b o ((lend_at hn).trans hb)
  have dj : ∀ q ∈ owns M, q ∉ owns L := fun q hq hl => (hm q hq).elim (fun z => owns_disj h z hl) fun z => (owns_in2 h hl).2 z
  have nM : ∀ a o, Al c (N ++ L) a → H a = some o → a ∉ owns N ∧ Al c (M ++ L) a := fun a o ha ho => by
    have n1 : a ∉ owns N := fun z => ha.2 (by rw [owns_app]; exact List.mem_append_left _ z)
    have n2 : a ∉ owns L := fun z => ha.2 (by rw [owns_app]; exact List.mem_append_right _ z)
    refine ⟨n1, ha.1, ?_⟩
    rw [owns_app]
    intro z
    rcases List.mem_append.mp z with z | z
    · rcases hm a z with z | z
      · exact n1 z
      · rw [ho] at z; cases z
    · exact n2 z
  have lB : ∀ a, (lendCtx c N L H).B a → c.B a ∧ a ∉ owns L := fun a ha => by
    rcases ha with ha | ha | ha
    · exact ⟨ha.1, fun z => ha.2 (by rw [owns_app]; exact List.mem_append_right _ z)⟩
    · exact ⟨c.nb _ (owns_in1 h ha).1, fun z => owns_disj h ha z⟩
    · exact ⟨c.nb _ (h.h0 ha), fun z => (owns_in2 h z).2 ha⟩
  have key : TupK (lendCtx c N L H).B H' (Al c (M ++ L)) H' := fun a u ha hu ht => by
    refine ⟨⟨(lB a ha).1, ?_⟩, hu⟩
    rw [owns_app]
    intro z
    rcases List.mem_append.mp z with z | z
    · have := owns_no k z hu
      rw [this] at ht; cases ht
    · exact (lB a ha).2 z
  refine ⟨?_, fun x hx => ?_, fun b o hb => ?_, ?_⟩
  · have hn := h.nd
    rw [owns_app] at hn ⊢
    exact List.nodup_append.mpr ⟨k.nd, (List.nodup_append.mp hn).2.1, fun a ha b hb e => dj a ha (e ▸ hb)⟩
  · rcases List.mem_append.mp hx with hx | hx
    · refine ((k.ok x hx).mono (fun a o ha ho => ⟨?_, ho⟩) fun _ _ _ q => q).ctx fun q hq => hm0 q (mem_owns hx hq)
      refine ⟨(lB a ha.1).1, ?_⟩
      rw [owns_app]
      exact fun z => (List.mem_append.mp z).elim ha.2 (lB a ha.1).2
    · refine (h.ok x (List.mem_append_right _ hx)).monoN (fun a o ha ho => ?_) fun p hp o ho => ?_
      · obtain ⟨n1, n2⟩ := nM a o ha ho
        obtain ⟨o', g1, g2⟩ := e1 a o ho n1
        exact ⟨n2, o', g1, ZI.sp_mono g2 key⟩
      · obtain ⟨o', g1, g2⟩ := e1 p o ho fun z => owns_disj h z (mem_owns hx hp)
        exact ⟨o', g1, ZI.sp_mono g2 key⟩
  · obtain ⟨o1, g1, s1⟩ := h.old b o hb
    obtain ⟨o2, g2, s2⟩ := e1 b o1 g1 fun z => by
      have := (owns_in1 h z).1
      rw [hb] at this; cases this
    refine ⟨o2, g2, ZI.sp_trans s1 (fun x u hx hu ht => ⟨hx, ?_⟩) (ZI.sp_mono s2 fun x u hx hu ht => ⟨(lB x hx).1, hu⟩)⟩
    obtain ⟨u', w1, w2⟩ := e1 x u hu fun z => by
      have := owns_no h (q := x) (by rw [owns_app]; exact List.mem_append_left _ z) hu
      rw [this] at ht; cases ht
    have : u' = u := ZI.sp_fix (by cases u <;> first | rfl | cases ht) w2
    rw [← this]; exact this ▸ w1
  · obtain ⟨Hz, h1, h2⟩ := k.iv
    refine ⟨Hz, h1, fun b o q => ⟨(h2 b o q).1, (h2 b o q).2.1, ?_⟩⟩
    rcases (h2 b o q).2.2 with z | z
    · exact z.2
    · exact .inr ((lend_none z).elim (fun z => (owns_in1 h z).1) fun z => h.h0 z)
end
theorem sub_lend : subCtx c L H = lendCtx c [] L H := by
  have e1 : owns [] = [] := rfl
  unfold subCtx lendCtx
  congr 1
  · funext a
    rw [e1]
    simp
  · funext b
    rw [e1]
    simp
theorem RelL.callL {M : List Pc} (h : RelL c L H) (k : RelL (subCtx c L H) M H') : RelL c (M ++ L) H' := RelL.callG (N := []) h (sub_lend ▸ k)
theorem RelL.call (h : RelL c L H) (k : RelL (subCtx c L H) [x] H') : RelL c (x :: L) H' := h.callL k
theorem RelL.start (c : Ctx) (i : Iv c c.H0) : RelL c [] c.H0 := ⟨List.nodup_nil, fun x hx => absurd hx (by simp), .of fun _ _ q => q, i⟩
/-- a piece by itself -/
theorem RelL.frz (h : RelL c L H) (hx : (.fz d, some v) ∈ L) : Fr (Al c L) H d v := h.ok _ hx
end
def mkS : Bool → Dt → Sl
  | true, d => .ow d
  | false, d => .fz d
theorem RelL.mkfz {c : Ctx} {b : Bool} {d : Dt} {v : V} {L : List Pc} {H : Hp} (h : RelL c ((mkS b d, some v) :: L) H) : RelL c ((.fz d, some v) :: L) H := by
  cases b with
  | true => exact h.fz
  | false => exact h
def Rel (c : Ctx) (s : PSt) (σ : L2.St) (F : List Pc) (H : Hp) : Prop := s.length = σ.length ∧ RelL c (s.zip σ ++ F) H
section
variable {c : Ctx} {s s' : PSt} {σ σ' : L2.St} {F F' : List Pc} {H H' : Hp} {x : Pc} {d : Dt} {v : V} {k : Nat}
theorem Rel.sub (h : Rel c s σ F H) (e : F'.Sublist F) : Rel c s σ F' H := ⟨h.1, h.2.sub ((List.Sublist.refl _).append e)⟩
theorem Rel.perm (h : Rel c s σ F H) (e : F.Perm F') : Rel c s σ F' H := ⟨h.1, h.2.perm ((List.Perm.refl _).append e)⟩
theorem Rel.drop (h : Rel c s σ (x :: F) H) : Rel c s σ F H := h.sub (List.sublist_cons_self _ _)
theorem Rel.top (h : Rel c s σ (x :: F) H) : RelL c (x :: (s.zip σ ++ F)) H := h.2.perm List.perm_middle
theorem Rel.of_top (e : s.length = σ.length) (h : RelL c (x :: (s.zip σ ++ F)) H) : Rel c s σ (x :: F) H := ⟨e, h.perm List.perm_middle.symm⟩
theorem Rel.mkfz {b : Bool} (h : Rel c s σ ((mkS b d, some v) :: F) H) : Rel c s σ ((.fz d, some v) :: F) H := .of_top h.1 h.top.mkfz
theorem Rel.ex (h : Rel c s σ F H) (e : Ex H H') : Rel c s σ F H' := ⟨h.1, h.2.ex e⟩
theorem zip_get {k : Nat} {a : Sl} (e : s.length = σ.length) (h : s[k]? = some a) : ∃ b, σ[k]? = some b ∧ (s.zip σ)[k]? = some (a, b) := by
  have hk := (List.getElem?_eq_some_iff.mp h).1
  refine ⟨σ[k], by simp, ?_⟩
  rw [List.getElem?_zip_eq_some]
  exact ⟨h, by simp⟩
theorem zip_set (s : PSt) (σ : L2.St) (k : Nat) (a : Sl) (b : Option V) : (s.set k a).zip (σ.set k b) = (s.zip σ).set k (a, b) := by
  refine List.ext_getElem? fun i => ?_
  by_cases c : k = i
  · subst c
    rw [List.getElem?_set_self']
    by_cases h1 : k < s.length
    · by_cases h2 : k < σ.length
      · have e1 : (s.zip σ)[k]? = some (s[k], σ[k]) := List.getElem?_zip_eq_some.mpr ⟨by simp, by simp⟩
        rw [e1]
        exact List.getElem?_zip_eq_some.mpr ⟨by simp [h1], by simp [h2]⟩
      · rw [List.getElem?_eq_none (by simp; omega), List.getElem?_eq_none (by simp; omega)]; rfl
    · rw [List.getElem?_eq_none (by simp; omega), List.getElem?_eq_none (by simp; omega)]; rfl
  · rw [List.getElem?_set_ne c]
    cases h : (s.zip σ)[i]? with
    | none =>
      rw [List.getElem?_eq_none_iff] at h ⊢
      simp at h ⊢
      exact h
    | some z =>
      obtain ⟨z1, z2⟩ := z
      rw [List.getElem?_zip_eq_some] at h ⊢
      rw [List.getElem?_set_ne c, List.getElem?_set_ne c]
      exact h
/-- the slot k is read -/
theorem Rel.get (h : Rel c s σ F H) (hk : s[k]? = some (.fz d)) : ∃ v, σ[k]? = some (some v) ∧ Rel c s σ ((.fz d, some v) :: F) H := by
  obtain ⟨b, hb, hz⟩ := zip_get h.1 hk
  have hm : (Sl.fz d, b) ∈ s.zip σ ++ F := List.mem_append_left _ (List.mem_of_getElem? hz)
  have ho := h.2.ok _ hm
  cases b with
  | none => exact ho.elim
  | some v => exact ⟨v, hb, .of_top h.1 (h.2.fr ho)⟩
theorem split_at {α : Type} {l : List α} {k : Nat} {a : α} (h : l[k]? = some a) : l = l.take k ++ a :: l.drop (k + 1) := by
  have hk := (List.getElem?_eq_some_iff.mp h).1
  have := List.getElem_cons_drop hk
  have e : l[k] = a := (List.getElem?_eq_some_iff.mp h).2
  rw [e] at this
  rw [this, List.take_append_drop]
theorem set_split {α : Type} {l : List α} {k : Nat} {a : α} (h : k < l.length) : l.set k a = l.take k ++ a :: l.drop (k + 1) := by
  rw [List.set_eq_take_append_cons_drop, if_pos h]
/-- the k-th piece taken out -/
theorem Rel.out (h : Rel c s σ F H) {a : Sl} {b : Option V} (hz : (s.zip σ)[k]? = some (a, b)) : RelL c ((a, b) :: ((s.zip σ).take k ++ (s.zip σ).drop (k + 1) ++ F)) H := by
  have := h.2
  rw [split_at hz] at this
  refine this.perm ?_
  rw [List.append_assoc]
  refine List.perm_middle.trans (.cons _ ?_)
  simp
/-- .. and put back, changed -/
theorem Rel.back (e : s.length = σ.length) {b : Option V} (hb : σ[k]? = some b) {a' : Sl} (h : RelL c ((a', b) :: ((s.zip σ).take k ++ (s.zip σ).drop (k + 1) ++ F)) H) : Rel c (s.set k a') σ F H := by
  refine ⟨by simp [e], ?_⟩
  have hk : k < σ.length := (List.getElem?_eq_some_iff.mp hb).1
  have e1 : σ.set k b = σ := by
    refine List.ext_getElem? fun i => ?_
    by_cases c : k = i
    · subst c; rw [List.getElem?_set_self hk, hb]
    · rw [List.getElem?_set_ne c]
  have : (s.set k a').zip σ = (s.zip σ).set k (a', b) := by
    rw [← zip_set, e1]
  rw [this, set_split (by simp; omega)]
  refine h.perm ?_
  rw [List.append_assoc, List.append_assoc]
  exact List.perm_middle.symm
theorem Rel.frz (h : Rel c s σ F H) (hk : s[k]? = some (.ow d)) : Rel c (s.set k (.fz d)) σ F H := by
  obtain ⟨b, hb, hz⟩ := zip_get h.1 hk
  have ho := h.out hz
  cases b with
  | none => exact (ho.ok _ (List.mem_cons_self ..)).elim
  | some v => exact .back h.1 hb ho.fz
/-- a slot is stored to -/
theorem Rel.set {a : Sl} {b : Option V} (h : Rel c s σ ((a, b) :: F) H) (k : Nat) : Rel c (s.set k a) (σ.set k b) F H := by
  by_cases hk : k < s.length
  · refine ⟨by simp [h.1], ?_⟩
    rw [zip_set, set_split (by simp [← h.1]; exact hk)]
    refine (h.top.sub (L' := (a, b) :: ((s.zip σ).take k ++ (s.zip σ).drop (k + 1) ++ F)) ?_).perm ?_
    · refine List.Sublist.cons_cons _ (List.Sublist.append ?_ (List.Sublist.refl _))
      have e := (List.take_append_drop k (s.zip σ)).symm
      conv => rhs; rw [e]
      refine List.Sublist.append (List.Sublist.refl _) ?_
      exact List.drop_sublist_drop_left _ (by omega)
    · rw [List.append_assoc, List.append_assoc]
      exact List.perm_middle.symm
  · rw [List.set_eq_of_length_le (by omega), List.set_eq_of_length_le (by have := h.1; omega)]
    exact h.drop
def wipeS (s : PSt) : List Nat → PSt
  | [] => s
  | v :: vs => (wipeS s vs).set v .un
theorem Rel.forget (h : Rel c s σ F H) (k : Nat) (b : Option V) : Rel c (s.set k .un) (σ.set k b) F H := by
  refine Rel.set (a := .un) (b := b) ?_ k
  refine .of_top h.1 ⟨h.2.nd, fun x hx => ?_, h.2.old, h.2.iv⟩
  rcases List.mem_cons.mp hx with rfl | hx
  · trivial
  · exact h.2.ok x hx
theorem Rel.wipe (h : Rel c s σ F H) : ∀ vs : List Nat, Rel c (wipeS s vs) (wipe σ vs) F H
  | [] => h
  | v :: vs => (Rel.wipe h vs).forget v none
theorem wipeS_length (s : PSt) : ∀ vs : List Nat, (wipeS s vs).length = s.length
  | [] => rfl
  | v :: vs => by unfold wipeS; rw [List.length_set, wipeS_length s vs]
theorem wipe_un (s : PSt) : ∀ (vs : List Nat), ∀ k ∈ vs, k < s.length → (wipeS s vs)[k]? = some .un
  | [], k, h, _ => absurd h (by simp)
  | v :: vs, k, h, hk => by
    unfold wipeS
    by_cases c : v = k
    · subst c
      rw [List.getElem?_set_self (by rw [wipeS_length]; exact hk)]
    · rw [List.getElem?_set_ne c]
      rcases List.mem_cons.mp h with e | h
      · exact absurd e.symm c
      · exact wipe_un s vs k h hk
theorem wipe_out (σ : L2.St) {k : Nat} : ∀ {vs : List Nat}, k ∉ vs → (wipe σ vs)[k]? = σ[k]?
  | [], _ => rfl
  | v :: vs, h => by
    unfold wipe
    rw [List.getElem?_set_ne (fun e => h (by rw [e]; exact List.mem_cons_self ..))]
    exact wipe_out σ fun z => h (List.mem_cons_of_mem _ z)
/-- slots that are unknown may hold anything -/
theorem Rel.anyU (h : Rel c s σ F H) (hl : σ'.length = σ.length) (hk : ∀ k : Nat, s[k]? ≠ some Sl.un → σ'[k]? = σ[k]?) : Rel c s σ' F H := by
  refine ⟨by rw [h.1, hl], ?_⟩
  have hr := h.2
  have key : ∀ (s : PSt) (σ σ' : L2.St), s.length = σ.length → σ'.length = σ.length → (∀ k : Nat, s[k]? ≠ some Sl.un → σ'[k]? = σ[k]?) → owns (s.zip σ) = owns (s.zip σ') ∧ ∀ x ∈ s.zip σ', x.1 = Sl.un ∨ x ∈ s.zip σ := by
    intro s
    induction s with
    | nil => intro σ σ' h1 h2 h3; simp
    | cons a s ih =>
      intro σ σ' h1 h2 h3
      cases σ with
      | nil => cases h1
      | cons b σ =>
        cases σ' with
        | nil => cases h2
        | cons b' σ' =>
          obtain ⟨i1, i2⟩ := ih σ σ' (by simpa using h1) (by simpa using h2) fun k hk => by
            have := h3 (k + 1) (by simpa using hk)
            simpa using this
          have h0 := h3 0
          simp at h0
          refine ⟨?_, ?_⟩
          · show owns ((a, b) :: s.zip σ) = owns ((a, b') :: s.zip σ')
            unfold owns at i1 ⊢
            rw [List.flatMap_cons, List.flatMap_cons, i1]
            cases a with
            | un => rfl
            | fz d => rfl
            | ow d => rw [h0 (by simp)]
            | cl C => rfl
          · intro x hx
            rcases List.mem_cons.mp hx with e | hx
            · subst e
              cases a with
              | un => exact .inl rfl
              | fz d => right; rw [h0 (by simp)]; exact List.mem_cons_self ..
              | ow d => right; rw [h0 (by simp)]; exact List.mem_cons_self ..
              | cl d => right; rw [h0 (by simp)]; exact List.mem_cons_self ..
            · rcases i2 x hx with e | e
              · exact .inl e
              · exact .inr (List.mem_cons_of_mem _ e)
  obtain ⟨k1, k2⟩ := key s σ σ' h.1 hl hk
  have eo : owns (s.zip σ ++ F) = owns (s.zip σ' ++ F) := by
    unfold owns at k1 ⊢
    rw [List.flatMap_append, List.flatMap_append, k1]
  have ea : Al c (s.zip σ ++ F) = Al c (s.zip σ' ++ F) := by
    funext a; unfold Al; rw [eo]
  refine ⟨eo ▸ hr.nd, fun x hx => ?_, hr.old, hr.iv⟩
  rw [← ea]
  rcases List.mem_append.mp hx with hx | hx
  · rcases k2 x hx with e | e
    · obtain ⟨a, b⟩ := x
      cases e; trivial
    · exact hr.ok x (List.mem_append_left _ e)
  · exact hr.ok x (List.mem_append_right _ hx)
/-- behind a block: its names are forgotten, whatever they held ahead of it -/
theorem Rel.unwipe {σ2 : L2.St} {s2 : PSt} {vs : List Nat} (h : Rel c s2 σ2 F H) (e : L2.wipe σ2 vs = L2.wipe σ vs) (es : wipeS s2 vs = wipeS s vs) : Rel c (wipeS s vs) σ F H := by
  have h1 := Rel.wipe h vs
  rw [e, es] at h1
  refine Rel.anyU h1 (by rw [wipe_length]) fun k hk => ?_
  have l1 := h1.1
  rw [wipeS_length, wipe_length] at l1
  by_cases c : k < s.length
  · exact (wipe_out σ fun hm => hk (wipe_un s vs k hm c)).symm
  · rw [List.getElem?_eq_none (by omega), List.getElem?_eq_none (by rw [wipe_length]; omega)]
end
end Lt
namespace Lt
open PySem PySem.Spec PyProof.Rows L2 Evl
open SX (S)
variable [ZI]
abbrev PQ := Bool → Dt → PSt → Prop
abbrev PTE := PSt → PQ → Prop
abbrev PTT := PSt → (Bool → PSt → Prop) → Prop
abbrev PTA := PSt → (List Dt → PSt → Prop) → Prop
abbrev PTO := PSt → (Option Int → PSt → Prop) → Prop
structure PEnds where
  nx : PSt → Prop
  rt : Bool → Dt → Prop
  bk : PSt → Prop := fun _ => False
  ct : PSt → Prop := fun _ => False
  rs : PSt → Sl → Prop := fun _ _ => False
abbrev PTS := PEnds → PSt → Prop
abbrev PTI := PSt → (List Dt → PSt → Prop) → Prop
abbrev PTG := Dt → PSt → (PSt → Prop) → Prop
abbrev DQ := Bool → Dt → Prop
def fzs (ds : List Dt) (vs : List V) : List Pc := List.zipWith (fun d v => (.fz d, some v)) ds vs
def CE (c : Ctx) (t : TE) (tp : PTE) : Prop := ∀ (F : List Pc) (s : PSt) (σ : L2.St) (H : Hp) (Q : VK) (R : PQ), Rel c s σ F H → tp s R → (∀ b d s' v H', R b d s' → Rel c s' σ ((mkS b d, some v) :: F) H' → Q v H') → t σ H Q
def CT (c : Ctx) (t : TT) (tp : PTT) : Prop := ∀ (F : List Pc) (s : PSt) (σ : L2.St) (H : Hp) (Q : Bool → Hp → Prop) (R : Bool → PSt → Prop), Rel c s σ F H → tp s R → (∀ b s' H', R b s' → Rel c s' σ F H' → Q b H') → t σ H Q
def CA (c : Ctx) (t : TA) (tp : PTA) : Prop := ∀ (F : List Pc) (s : PSt) (σ : L2.St) (H : Hp) (Q : List V → Hp → Prop) (R : List Dt → PSt → Prop), Rel c s σ F H → tp s R → (∀ ds s' vs H', R ds s' → ds.length = vs.length → Rel c s' σ (fzs ds vs ++ F) H' → Q vs H') → t σ H Q
def CP (c : Ctx) (t : TO) (tp : PTO) : Prop := ∀ (F : List Pc) (s : PSt) (σ : L2.St) (H : Hp) (Q : Option Int → Hp → Prop) (R : Option Int → PSt → Prop), Rel c s σ F H → tp s R → (∀ b s' H', R b s' → Rel c s' σ F H' → Q b H') → t σ H Q
structure Lk (c : Ctx) (F : List Pc) (D : Ends) (P : PEnds) : Prop where
  nx : ∀ s σ H, P.nx s → Rel c s σ F H → D.nx σ H
  rt : ∀ b d v H, P.rt b d → RelL c [(mkS b d, some v)] H → D.rt v H
  bk : ∀ s σ H, P.bk s → Rel c s σ F H → D.bk σ H
  ct : ∀ s σ H, P.ct s → Rel c s σ F H → D.ct σ H
  rs : ∀ s σ sl v H, P.rs s sl → Rel c s σ ((sl, some v) :: F) H → D.rt v H
def CS (c : Ctx) (t : TS) (tp : PTS) : Prop := ∀ (F : List Pc) (s : PSt) (σ : L2.St) (H : Hp) (D : Ends) (P : PEnds), Rel c s σ F H → tp P s → Lk c F D P → t D σ H
/-- what is assigned: the piece on top goes to its place -/
def CG (c : Ctx) (vs : List Nat) (g : TG) (gp : PTG) : Prop := ∀ (F : List Pc) (s : PSt) (σ : L2.St) (H : Hp) (d : Dt) (v : V) (Q : L2.St → Hp → Prop) (R : PSt → Prop), Rel c s σ ((.fz d, some v) :: F) H → gp d s R → (∀ s' σ', R s' → Rel c s' σ' F H → wipe σ' vs = wipe σ vs → Q σ' H) → g v σ H Q
/-- a piece that may be looked at: frozen or owned -/
def Wk (L : List Pc) (d : Dt) (v : V) : Prop := (.fz d, some v) ∈ L ∨ (.ow d, some v) ∈ L ∨ ∃ C w, (.cl C, w) ∈ L ∧ C.lk d v
theorem look_at {c : Ctx} {L : List Pc} {H : Hp} {d : Dt} {v : V} (h : RelL c L H) (w : ∃ C w, (Sl.cl C, w) ∈ L ∧ C.lk d v) : ∃ p, v = .ref p ∧ p ∈ owns L ∧ AtS (Al c L) H d p := by
  obtain ⟨C, w, hm, hl⟩ := w
  have := h.ok _ hm
  cases w with
  | none => exact this.elim
  | some w =>
    obtain ⟨p, e, hp, k⟩ := C.look this.2.2 hl
    exact ⟨p, e, mem_owns hm hp, k⟩
def OpZ (r : R2) (rp : Dt → Dt → DQ → Prop) : Prop := ∀ (c : Ctx) (L : List Pc) (H : Hp) (x y : V) (dx dy : Dt) (Q : VK) (R : DQ), RelL c L H → Wk L dx x → Wk L dy y → rp dx dy R → (∀ b d v H', R b d → RelL c ((mkS b d, some v) :: L) H' → Q v H') → r x y H Q
def UnZ (r : V → Hp → VK → Prop) (rp : Dt → DQ → Prop) : Prop := ∀ (c : Ctx) (L : List Pc) (H : Hp) (x : V) (dx : Dt) (Q : VK) (R : DQ), RelL c L H → Wk L dx x → rp dx R → (∀ b d v H', R b d → RelL c ((mkS b d, some v) :: L) H' → Q v H') → r x H Q
section
variable {c : Ctx} {L : List Pc} {H : Hp} {d : Dt} {v : V}
theorem mem_zip {s : PSt} {σ : L2.St} {k : Nat} {a : Sl} (e : s.length = σ.length) (h : s[k]? = some a) : ∃ b, σ[k]? = some b ∧ (a, b) ∈ s.zip σ := by
  obtain ⟨b, h1, h2⟩ := zip_get e h
  exact ⟨b, h1, List.mem_of_getElem? h2⟩
theorem Wk.scal_int {i : Int} (h : RelL c L H) (w : Wk L (.int i) v) : v = .int i := by
  rcases w with w | w | w
  · exact h.ok _ w
  · have := h.ok _ w
    cases v <;> first | exact this.elim | exact this.2.elim
  · obtain ⟨_, _, _, k⟩ := look_at h w
    exact k.elim
theorem Wk.scal_str {l : List Nat} (h : RelL c L H) (w : Wk L (.str l) v) : v = Tx l := by
  rcases w with w | w | w
  · exact h.ok _ w
  · have := h.ok _ w
    cases v <;> first | exact this.elim | exact this.2.elim
  · obtain ⟨_, _, _, k⟩ := look_at h w
    exact k.elim
theorem Wk.scal_bl {l : Bool} (h : RelL c L H) (w : Wk L (.bl l) v) : v = .bl l := by
  rcases w with w | w | w
  · exact h.ok _ w
  · have := h.ok _ w
    cases v <;> first | exact this.elim | exact this.2.elim
  · obtain ⟨_, _, _, k⟩ := look_at h w
    exact k.elim
theorem Wk.scal_non (h : RelL c L H) (w : Wk L .non v) : v = .non := by
  rcases w with w | w | w
  · exact h.ok _ w
  · have := h.ok _ w
    cases v <;> first | exact this.elim | exact this.2.elim
  · obtain ⟨_, _, _, k⟩ := look_at h w
    exact k.elim
theorem Wk.lst {ds : List Dt} (h : RelL c L H) (w : Wk L (.lst ds) v) : ∃ p xs, v = .ref p ∧ H p = some (.lst xs) ∧ FrAll (Al c L) H ds xs := by
  rcases w with w | w | w
  · obtain ⟨a, xs, h1, h2, h3, h4⟩ := h.ok _ w
    exact ⟨a, xs, h1, h3, h4⟩
  · have := h.ok _ w
    cases v <;> try exact this.elim
    obtain ⟨_, xs, h1, h2⟩ := this
    exact ⟨_, xs, rfl, h1, h2⟩
  · obtain ⟨p, e, _, xs, h1, h2⟩ := look_at h w
    exact ⟨p, xs, e, h1, h2.fr⟩
theorem Wk.dic {ks : List Key} {ds : List Dt} (h : RelL c L H) (w : Wk L (.dic ks ds) v) : ∃ (p : Addr) (ws : List (Key × V)), v = .ref p ∧ Rd H p (.dK ws) ∧ ws.map (·.1) = ks ∧ FrAll (Al c L) H ds (ws.map (·.2)) := by
  rcases w with w | w | w
  · obtain ⟨a, xs, h1, h2, h3, h4, h5⟩ := h.ok _ w
    exact ⟨a, xs, h1, h3, h4, h5⟩
  · have := h.ok _ w
    cases v <;> try exact this.elim
    obtain ⟨_, xs, h1, h2, h3⟩ := this
    exact ⟨_, xs, rfl, .inl h1, h2, h3⟩
  · obtain ⟨p, e, _, xs, h1, h2, h3⟩ := look_at h w
    exact ⟨p, xs, e, .inl h1, h2, h3.fr⟩
theorem Wk.fr_tup {ds : List Dt} (h : RelL c L H) (w : Wk L (.tup ds) v) : Fr (Al c L) H (.tup ds) v := by
  rcases w with w | w | w
  · exact h.ok _ w
  · have := h.ok _ w
    cases v <;> try exact this.elim
    exact this.2.elim
  · obtain ⟨_, _, _, k⟩ := look_at h w
    exact k.elim
theorem Wk.tup {ds : List Dt} (h : RelL c L H) (w : Wk L (.tup ds) v) : ∃ p xs, v = .ref p ∧ Al c L p ∧ Rd H p (.tup xs) ∧ FrAll (Al c L) H ds xs := w.fr_tup h
theorem Wk.tpk {ds : List Dt} (h : RelL c L H) (w : Wk L (.tpk ds) v) : Fr (Al c L) H (.tpk ds) v := by
  rcases w with w | w | w
  · exact h.ok _ w
  · have := h.ok _ w
    cases v <;> try exact this.elim
    exact this.2.elim
  · obtain ⟨_, _, _, k⟩ := look_at h w
    exact k.elim
/-- a tuple, whatever is known of it -/
def fgt : Dt → Dt
  | .tpk ds => .tup ds
  | d => d
/-- scalars -/
theorem RelL.scal (h : RelL c L H) (hd : ∀ A H, Fr A H d v) : RelL c ((mkS false d, some v) :: L) H := h.fr (hd _ _)
theorem RelL.int (h : RelL c L H) (i : Int) : RelL c ((mkS false (.int i), some (.int i)) :: L) H := h.scal fun _ _ => rfl
theorem RelL.str (h : RelL c L H) (i : List Nat) : RelL c ((mkS false (.str i), some (Tx i)) :: L) H := h.scal fun _ _ => rfl
theorem RelL.bl (h : RelL c L H) (i : Bool) : RelL c ((mkS false (.bl i), some (.bl i)) :: L) H := h.scal fun _ _ => rfl
/-- a new list, a new tuple -/
theorem RelL.newL (h : RelL c L H) {ds : List Dt} {xs : List V} (r : FrAll (Al c L) H ds xs) {p : Addr} {H2 : Hp} (hp : H p = none) (e : Ex H H2) (h2 : H2 p = some (.lst xs)) : RelL c ((mkS true (.lst ds), some (.ref p)) :: L) H2 :=
  h.new e hp ⟨xs, h2, r.dom.mono fun a o ha ho => ⟨⟨ha.1, fun z => ha.2 (by rw [z]; exact hp)⟩, e _ _ ho⟩⟩
theorem RelL.newT (h : RelL c L H) {ds : List Dt} {xs : List V} (r : FrAll (Al c L) H ds xs) {p : Addr} {H2 : Hp} (hp : H p = none) (e : Ex H H2) (h2 : H2 p = some (.tup xs)) : RelL c ((mkS false (.tup ds), some (.ref p)) :: L) H2 :=
  (h.ex e).fr ⟨p, xs, rfl, ⟨c.nb _ (h.h0 hp), fun z => (owns_in h z).2 hp⟩, .inl h2, r.mono fun a o ha ho => ⟨ha, e _ _ ho⟩⟩
end
section
variable {c : Ctx} {L : List Pc} {H : Hp} {d : Dt} {v : V}
theorem Wk.more {x : Pc} (w : Wk L d v) : Wk (x :: L) d v := w.imp (List.mem_cons_of_mem _) fun w => w.imp (List.mem_cons_of_mem _) fun ⟨C, u, h1, h2⟩ => ⟨C, u, List.mem_cons_of_mem _ h1, h2⟩
theorem Wk.fgt (h : RelL c L H) (w : Wk L d v) : ∃ x : Pc, RelL c (x :: L) H ∧ Wk (x :: L) (fgt d) v := by
  by_cases e : ∃ ds, d = .tpk ds
  · obtain ⟨ds, rfl⟩ := e
    obtain ⟨p, xs, o, e1, ha, g1, _, g2⟩ := w.tpk h
    exact ⟨(.fz (.tup ds), some v), h.fr ⟨p, xs, e1, ha, .inr ⟨o, g1⟩, g2⟩, .inl (List.mem_cons_self ..)⟩
  · refine ⟨(mkS false .non, some .non), h.scal fun _ _ => rfl, ?_⟩
    have : Lt.fgt d = d := by
      cases d <;> first | rfl | exact absurd ⟨_, rfl⟩ e
    rw [this]
    exact w.more
theorem OpZ.fgt {r : R2} {rp : Dt → Dt → DQ → Prop} (z : OpZ r rp) : OpZ r fun x y R => rp (Lt.fgt x) (Lt.fgt y) R := by
  intro c L H x y dx dy Q R h wx wy hr k
  obtain ⟨p, h1, w1⟩ := wx.fgt h
  obtain ⟨q, h2, w2⟩ := (wy.more (x := p)).fgt h1
  refine z c _ H x y _ _ Q R h2 w1.more w2 hr fun b d v H' rd hl => k b d v H' rd (hl.sub (.cons_cons _ ?_))
  exact (List.sublist_cons_self p L).trans (List.sublist_cons_self q (p :: L))
theorem UnZ.fgt {r : V → Hp → VK → Prop} {rp : Dt → DQ → Prop} (z : UnZ r rp) : UnZ r fun x R => rp (Lt.fgt x) R := by
  intro c L H x dx Q R h wx hr k
  obtain ⟨p, h1, w1⟩ := wx.fgt h
  exact z c _ H x _ Q R h1 w1 hr fun b d v H' rd hl => k b d v H' rd (hl.sub (.cons_cons _ (List.sublist_cons_self p L)))
end
def zAdd0 (x y : Dt) (R : DQ) : Prop := match x, y with
  | .int i, .int j => R false (.int (i + j))
  | .str a, .str b => a.length + b.length ≤ 16777216 ∧ R false (.str (a ++ b))
  | .lst a, .lst b => a.length + b.length ≤ 16777216 ∧ R true (.lst (a ++ b))
  | .tup a, .tup b => a.length + b.length ≤ 16777216 ∧ R false (.tup (a ++ b))
  | _, _ => False
def rCatTZ : R2 := fun x y H Q => ∃ (a b : Addr) (xs ys : List V), x = .ref a ∧ y = .ref b ∧ Rd H a (.tup xs) ∧ Rd H b (.tup ys) ∧ xs.length + ys.length ≤ sizeLine ∧ (xs = [] → Q (.ref b) H) ∧ (ys = [] → Q (.ref a) H) ∧ ∀ p, H p = none → Q (.ref p) (upd H p (.tup (xs ++ ys)))
theorem op_catTZ {X : Cx} : OpR X (binaryOp .Add) rCatTZ := OpR.wk (r := rCatA X.K) op_catA fun x y H Q ⟨a, b, xs, ys, e1, e2, h1, h2, hl, q0, q1, q2⟩ =>
  ⟨a, b, xs, ys, e1, e2, .inl h1, .inl h2, hl, q0, fun _ h => q1 h, fun _ _ p hp => q2 p hp⟩
def rAddZ : R2 := fun x y H Q => rAddI x y H Q ∨ rAddT x y H Q ∨ rCatX x y H Q ∨ rCatTZ x y H Q
theorem op_addZ {X : Cx} : OpR X (binaryOp .Add) rAddZ := OpR.orr op_add (OpR.orr op_addT (OpR.orr op_catX op_catTZ))
theorem z_add0 : OpZ rAddZ zAdd0 := by
  intro c L H x y dx dy Q R h wx wy hr k
  unfold zAdd0 at hr
  split at hr
  · rw [wx.scal_int h, wy.scal_int h]
    exact .inl ⟨_, _, rfl, rfl, k _ _ _ _ hr (h.int _)⟩
  · rw [wx.scal_str h, wy.scal_str h]
    exact .inr (.inl ⟨_, _, rfl, rfl, by rw [sizeLine_eq]; exact hr.1, k _ _ _ _ hr.2 (h.str _)⟩)
  · obtain ⟨p, xs, rfl, h1, h2⟩ := wx.lst h
    obtain ⟨q, ys, rfl, h3, h4⟩ := wy.lst h
    exact .inr (.inr (.inl ⟨_, _, _, _, rfl, rfl, h1, h3, by rw [h2.length, h4.length, sizeLine_eq]; exact hr.1, fun r H2 hp e h5 => k _ _ _ _ hr.2 (h.newL (h2.append h4) hp e h5)⟩))
  · rename_i a b
    obtain ⟨p, xs, rfl, h0, h1, h2⟩ := wx.tup h
    obtain ⟨q, ys, rfl, g0, h3, h4⟩ := wy.tup h
    refine .inr (.inr (.inr ⟨_, _, _, _, rfl, rfl, h1, h3, by rw [h2.length, h4.length, sizeLine_eq]; exact hr.1, fun e => ?_, fun e => ?_, fun r hr' => ?_⟩))
    · refine k _ _ _ _ hr.2 (h.fr ?_)
      subst e
      obtain rfl : a = [] := List.eq_nil_of_length_eq_zero (by rw [← h2.length]; rfl)
      exact ⟨q, ys, rfl, g0, h3, h4⟩
    · refine k _ _ _ _ hr.2 (h.fr ?_)
      subst e
      obtain rfl : b = [] := List.eq_nil_of_length_eq_zero (by rw [← h4.length]; rfl)
      rw [List.append_nil]
      exact ⟨p, xs, rfl, h0, h1, h2⟩
    · exact k _ _ _ _ hr.2 (h.newT (h2.append h4) hr' (Ex.new hr') upd_same)
  · exact hr.elim
def zAdd (x y : Dt) (R : DQ) : Prop := zAdd0 (fgt x) (fgt y) R
theorem z_add : OpZ rAddZ zAdd := z_add0.fgt
def zI0 (f : Int → Int → Int) (x y : Dt) (R : DQ) : Prop := match x, y with
  | .int i, .int j => R false (.int (f i j))
  | _, _ => False
def zI (C : Int → Int → Prop) (f : Int → Int → Int) (x y : Dt) (R : DQ) : Prop := match x, y with
  | .int i, .int j => C i j ∧ R false (.int (f i j))
  | _, _ => False
theorem z_i0 {f : Int → Int → Int} : OpZ (rI0 fun i j => .int (f i j)) (zI0 f) := by
  intro c L H x y dx dy Q R h wx wy hr k
  unfold zI0 at hr
  split at hr
  · rw [wx.scal_int h, wy.scal_int h]
    exact ⟨_, _, rfl, rfl, k _ _ _ _ hr (h.int _)⟩
  · exact hr.elim
theorem z_i {C : Int → Int → Prop} {f : Int → Int → Int} : OpZ (rI C fun i j => .int (f i j)) (zI C f) := by
  intro c L H x y dx dy Q R h wx wy hr k
  unfold zI at hr
  split at hr
  · rw [wx.scal_int h, wy.scal_int h]
    exact ⟨_, _, rfl, rfl, hr.1, k _ _ _ _ hr.2 (h.int _)⟩
  · exact hr.elim
abbrev zSub := zI0 (· - ·)
abbrev zMul := zI CMul (· * ·)
abbrev zMod := zI (fun _ j => j ≠ 0) Int.fmod
abbrev zDiv := zI CDivN Int.fdiv
theorem z_sub : OpZ (rI0 fun i j => .int (i - j)) zSub := z_i0
theorem z_div : OpZ (rI CDivN fun i j => .int (i.fdiv j)) zDiv := z_i
def zPow (x y : Dt) (R : DQ) : Prop := zI CPow (fun i j => i ^ j.toNat) x y R
def zNeg (x : Dt) (R : DQ) : Prop := match x with
  | .int i => R false (.int (-i))
  | _ => False
theorem z_neg : UnZ (rU fun i => .int (-i)) zNeg := by
  intro c L H x dx Q R h wx hr k
  unfold zNeg at hr
  split at hr
  · rw [wx.scal_int h]
    exact ⟨_, rfl, k _ _ _ _ hr (h.int _)⟩
  · exact hr.elim
/-- comparisons -/
def zC (f : Int → Int → Bool) (g : List Nat → List Nat → Bool) (x y : Dt) (R : DQ) : Prop := match x, y with
  | .int i, .int j => R false (.bl (f i j))
  | .str i, .str j => R false (.bl (g i j))
  | _, _ => False
theorem z_c {r : R2} {f : Int → Int → Bool} {g : List Nat → List Nat → Bool} (h1 : ∀ i j H Q, Q (.bl (f i j)) H → r (.int i) (.int j) H Q) (h2 : ∀ a b H Q, Q (.bl (g a b)) H → r (Tx a) (Tx b) H Q) : OpZ r (zC f g) := by
  intro c L H x y dx dy Q R h wx wy hr k
  unfold zC at hr
  split at hr
  · rw [wx.scal_int h, wy.scal_int h]
    exact h1 _ _ _ _ (k _ _ _ _ hr (h.bl _))
  · rw [wx.scal_str h, wy.scal_str h]
    exact h2 _ _ _ _ (k _ _ _ _ hr (h.bl _))
  · exact hr.elim
abbrev zLt := zC (fun i j => decide (i < j)) (fun a b => decide (a < b))
abbrev zGt := zC (fun i j => decide (j < i)) (fun a b => decide (b < a))
abbrev zLe := zC (fun i j => decide (i ≤ j)) (fun a b => !decide (b < a))
abbrev zGe := zC (fun i j => decide (j ≤ i)) (fun a b => !decide (a < b))
theorem z_gt : OpZ rGtU zGt := z_c (fun _ _ _ _ q => w_gtI q) fun _ _ _ _ q => w_gtT q
theorem z_le : OpZ rLeU zLe := z_c (fun _ _ _ _ q => w_leI q) fun _ _ _ _ q => w_leT q
mutual
def toP : Dt → PyData
  | .non => .none
  | .bl b => .bool b
  | .int i => .int i
  | .str l => .str (S l)
  | .tup ds => .tuple (toPs ds)
  | .tpk ds => .tuple (toPs ds)
  | .lst ds => .list (toPs ds)
  | .dic _ _ => .none
  | .dice => .none
  | .val _ => .none
  | .ob _ _ => .none
def toPs : List Dt → List PyData
  | [] => []
  | d :: ds => toP d :: toPs ds
end
mutual
/-- data that may be compared, so deep -/
def cmpOk : Nat → Dt → Bool
  | 0, _ => false
  | _ + 1, .non => true
  | _ + 1, .bl _ => true
  | _ + 1, .int _ => true
  | _ + 1, .str l => l.all fun c => decide (c < 1114112)
  | n + 1, .tup ds => cmpOks n ds
  | n + 1, .tpk ds => cmpOks n ds
  | n + 1, .lst ds => cmpOks n ds
  | _ + 1, .dic _ _ => false
  | _ + 1, .dice => false
  | _ + 1, .val _ => false
  | _ + 1, .ob _ _ => false
def cmpOks : Nat → List Dt → Bool
  | _, [] => true
  | n, d :: ds => cmpOk n d && cmpOks n ds
end
mutual
theorem okD_toP : ∀ (n : Nat) (d : Dt), cmpOk n d = true → okD n (toP d)
  | 0, d, h => by unfold cmpOk at h; cases h
  | n + 1, .non, _ => okD_none.mono (by omega)
  | n + 1, .bl b, _ => (okD_bool b).mono (by omega)
  | n + 1, .int i, _ => (okD_int i).mono (by omega)
  | n + 1, .str l, h => (okD_tx (by
      unfold cmpOk at h
      intro c hc
      have := List.all_eq_true.mp h c hc
      simpa using this)).mono (by omega)
  | n + 1, .tup ds, h => okD_tup (okDs_toPs n ds (by unfold cmpOk at h; exact h))
  | n + 1, .tpk ds, h => okD_tup (okDs_toPs n ds (by unfold cmpOk at h; exact h))
  | n + 1, .lst ds, h => okD_list (okDs_toPs n ds (by unfold cmpOk at h; exact h))
  | n + 1, .dic _ _, h => by unfold cmpOk at h; cases h
  | n + 1, .dice, h => by unfold cmpOk at h; cases h
  | n + 1, .val _, h => by unfold cmpOk at h; cases h
  | n + 1, .ob _ _, h => by unfold cmpOk at h; cases h
theorem okDs_toPs : ∀ (n : Nat) (ds : List Dt), cmpOks n ds = true → ∀ d ∈ toPs ds, okD n d
  | n, [], _ => by unfold toPs; simp
  | n, d :: ds, h => by
    unfold cmpOks at h
    unfold toPs
    rw [Bool.and_eq_true] at h
    intro e he
    rcases List.mem_cons.mp he with rfl | he
    · exact okD_toP n d h.1
    · exact okDs_toPs n ds h.2 e he
end
mutual
theorem fr_rp {A : Addr → Prop} {H : Hp} : ∀ (n : Nat) (d : Dt) (v : V), cmpOk n d = true → Fr A H d v → Rp H v (toP d)
  | 0, d, v, h, _ => by unfold cmpOk at h; cases h
  | n + 1, .non, v, _, r => by cases r; exact .non
  | n + 1, .bl b, v, _, r => by cases r; exact .bl b
  | n + 1, .int i, v, _, r => by cases r; exact .int i
  | n + 1, .str l, v, _, r => by cases r; exact .str _
  | n + 1, .tup ds, v, h, r => by
    obtain ⟨a, xs, rfl, _, h1, h2⟩ := r
    exact .tup h1 (fr_rps n ds xs (by unfold cmpOk at h; exact h) h2)
  | n + 1, .tpk ds, v, h, r => by
    obtain ⟨a, xs, o, rfl, _, h1, _, h2⟩ := r
    exact .tup (.inr ⟨o, h1⟩) (fr_rps n ds xs (by unfold cmpOk at h; exact h) h2)
  | n + 1, .lst ds, v, h, r => by
    obtain ⟨a, xs, rfl, _, h1, h2⟩ := r
    exact .lst h1 (fr_rps n ds xs (by unfold cmpOk at h; exact h) h2)
  | n + 1, .dic _ _, v, h, _ => by unfold cmpOk at h; cases h
  | n + 1, .dice, v, h, _ => by unfold cmpOk at h; cases h
  | n + 1, .val _, v, h, _ => by unfold cmpOk at h; cases h
  | n + 1, .ob _ _, v, h, _ => by unfold cmpOk at h; cases h
theorem fr_rps {A : Addr → Prop} {H : Hp} : ∀ (n : Nat) (ds : List Dt) (vs : List V), cmpOks n ds = true → FrAll A H ds vs → RpAll H vs (toPs ds)
  | n, [], _, _, r => by cases r; exact .nil
  | n, d :: ds, vs, h, r => by
    obtain ⟨v, ws, rfl, h1, h2⟩ := r
    unfold cmpOks at h
    rw [Bool.and_eq_true] at h
    exact .cons (fr_rp n d v h.1 h1) (fr_rps n ds ws h.2 h2)
end
def eqD (x y : Dt) : Bool := PyData.eqv (toP x) (toP y)
theorem Wk.rp {c : Ctx} {L : List Pc} {H : Hp} {d : Dt} {v : V} {n : Nat} (h : RelL c L H) (w : Wk L d v) (ok : cmpOk n d = true) : Rp H v (toP d) := by
  rcases w with w | w | w
  · exact fr_rp n d v ok (h.ok _ w)
  · have := h.ok _ w
    cases v <;> try exact this.elim
    obtain ⟨_, q⟩ := this
    exact fr_rp (A := fun _ => True) n d _ ok ((q.mono (fun a o _ ho => ⟨trivial, ho⟩) fun _ q => q).to_fr trivial)
  · obtain ⟨p, e, _, q⟩ := look_at h w
    subst e
    exact fr_rp (A := fun _ => True) n d _ ok ((q.at.mono (fun a o _ ho => ⟨trivial, ho⟩) fun _ q => q).to_fr trivial)
def zEqG (neg : Bool) (x y : Dt) (R : DQ) : Prop := match x, y with
  | .int i, .int j => R false (.bl (neg ^^ decide (i = j)))
  | .str i, .str j => R false (.bl (neg ^^ decide (i = j)))
  | .bl i, .bl j => R false (.bl (neg ^^ decide (i = j)))
  | x, y => cmpOk 60 x = true ∧ cmpOk 60 y = true ∧ R false (.bl (neg ^^ eqD x y))
abbrev zEq := zEqG false
abbrev zNe := zEqG true
theorem z_eq {K : PySem.W.Frag} : OpZ (rEqU K) zEq := by
  intro c L H x y dx dy Q R h wx wy hr k
  unfold zEq zEqG at hr
  split at hr
  · rw [wx.scal_int h, wy.scal_int h]
    exact w_eqI (k _ _ _ _ (by simpa using hr) (h.bl _))
  · rw [wx.scal_str h, wy.scal_str h]
    exact w_eqT (k _ _ _ _ (by simpa using hr) (h.bl _))
  · rw [wx.scal_bl h, wy.scal_bl h]
    refine w_eqS rfl ?_
    rename_i i j
    have e : decide (V.bl i = V.bl j) = decide (i = j) := by by_cases h : i = j <;> simp [h]
    rw [e]
    exact (k _ _ _ _ (by simpa using hr) (h.bl _))
  · exact w_eqD (wx.rp h hr.1) (wy.rp h hr.2.1) (okD_toP _ _ hr.1).shaped (okD_toP _ _ hr.2.1).shaped (k _ _ _ _ (by simpa [eqD] using hr.2.2) (h.bl _))
theorem z_ne {K : PySem.W.Frag} : OpZ (rNeU K) zNe := by
  intro c L H x y dx dy Q R h wx wy hr k
  unfold zNe zEqG at hr
  split at hr
  · rw [wx.scal_int h, wy.scal_int h]
    exact w_neI (k _ _ _ _ (by simpa using hr) (h.bl _))
  · rw [wx.scal_str h, wy.scal_str h]
    exact w_neT (k _ _ _ _ (by simpa using hr) (h.bl _))
  · rw [wx.scal_bl h, wy.scal_bl h]
    refine w_neS rfl ?_
    rename_i i j
    have e : decide (V.bl i = V.bl j) = decide (i = j) := by by_cases h : i = j <;> simp [h]
    rw [e]
    exact (k _ _ _ _ (by simpa using hr) (h.bl _))
  · exact w_neD (wx.rp h hr.1) (wy.rp h hr.2.1) (okD_toP _ _ hr.1).shaped (okD_toP _ _ hr.2.1).shaped (k _ _ _ _ (by simpa [eqD] using hr.2.2) (h.bl _))
/-- is None -/
def zIsG (neg : Bool) (x y : Dt) (R : DQ) : Prop := match x, y with
  | .non, .non => R false (.bl (!neg))
  | .val _, .non => False
  | _, .non => R false (.bl neg)
  | _, _ => False
abbrev zIsN := zIsG false
abbrev zNotN := zIsG true
theorem Wk.notnon {c : Ctx} {L : List Pc} {H : Hp} {d : Dt} {v : V} (h : RelL c L H) (w : Wk L d v) (h1 : d ≠ .non) (h2 : ∀ v, d ≠ .val v) : v ≠ .non := by
  intro e
  subst e
  rcases w with w | w | w
  · have := h.ok _ w
    cases d <;> try (first | exact absurd rfl h1 | exact absurd rfl (h2 _))
    all_goals first
      | (cases (show V.non = _ from this); done)
      | (obtain ⟨_, e⟩ := ZI.ob_ref this; cases e; done)
      | (obtain ⟨_, _, e, _⟩ := this; cases e; done)
      | (obtain ⟨_, _, _, e, _⟩ := this; cases e; done)
      | (obtain ⟨_, e, _⟩ := this; cases e; done)
  · exact h.ok _ w
  · obtain ⟨p, e, _⟩ := look_at h w
    cases e
theorem z_isG {r : R2} {neg : Bool} (h1 : ∀ H Q, Q (.bl (!neg)) H → r .non .non H Q) (h2 : ∀ x H Q, x ≠ .non → Q (.bl neg) H → r x .non H Q) : OpZ r (zIsG neg) := by
  intro c L H x y dx dy Q R h wx wy hr k
  unfold zIsG at hr
  split at hr
  · rw [wx.scal_non h, wy.scal_non h]
    exact h1 _ _ (k _ _ _ _ hr (h.bl _))
  · exact hr.elim
  · rename_i hx hv
    rw [wy.scal_non h]
    exact h2 _ _ _ (wx.notnon h hx hv) (k _ _ _ _ hr (h.bl _))
  · exact hr.elim
theorem z_isN : OpZ rIsN zIsN := z_isG (fun _ _ q => w_isN q) fun _ _ _ h q => w_isNx h q
theorem z_notN : OpZ rNotN zNotN := z_isG (fun _ _ q => w_notN q) fun _ _ _ h q => w_notNx h q
/-- in -/
def fltD : Dt → Option V
  | .non => some .non
  | .bl b => some (.bl b)
  | .int i => some (.int i)
  | .str l => some (Tx l)
  | _ => none
theorem fltD_fr {A : Addr → Prop} {H : Hp} {d : Dt} {v w : V} (r : Fr A H d v) (e : fltD d = some w) : v = w ∧ flatV w = true := by
  cases d <;> cases e <;> exact ⟨r, rfl⟩
def zInG0 (neg : Bool) (x y : Dt) (R : DQ) : Prop := match x, y with
  | .str a, .str l => ∃ ch, a = [ch] ∧ R false (.bl (neg ^^ decide (ch ∈ l)))
  | x, .lst ds => ∃ v, fltD x = some v ∧ ∃ vs, ds.map fltD = vs.map some ∧ R false (.bl (neg ^^ inV v vs))
  | x, .tup ds => ∃ v, fltD x = some v ∧ ∃ vs, ds.map fltD = vs.map some ∧ R false (.bl (neg ^^ inV v vs))
  | _, _ => False
theorem flt_all {A : Addr → Prop} {H : Hp} : ∀ {ds : List Dt} {xs vs : List V}, FrAll A H ds xs → ds.map fltD = vs.map some → xs = vs ∧ vs.all flatV = true
  | [], _, vs, r, e => by
    cases vs with
    | nil => exact ⟨r, rfl⟩
    | cons v vs => cases e
  | d :: ds, _, vs, r, e => by
    obtain ⟨v, ws, rfl, h1, h2⟩ := r
    cases vs with
    | nil => cases e
    | cons w vs =>
      simp only [List.map_cons, List.cons.injEq] at e
      obtain ⟨e1, e2⟩ := fltD_fr h1 e.1
      obtain ⟨e3, e4⟩ := flt_all h2 e.2
      subst e1 e3
      exact ⟨rfl, by simp [e2]; simpa using e4⟩
theorem Wk.flt {c : Ctx} {L : List Pc} {H : Hp} {d : Dt} {v w : V} (h : RelL c L H) (wk : Wk L d v) (e : fltD d = some w) : v = w ∧ flatV w = true := by
  rcases wk with q | q | q
  · exact fltD_fr (h.ok _ q) e
  · have := h.ok _ q
    cases v <;> try exact this.elim
    cases d <;> first | (cases e; done) | exact this.2.elim
  · obtain ⟨p, _, _, k⟩ := look_at h q
    cases d <;> first | (cases e; done) | exact k.elim
theorem z_inG0 {r : R2} {K : PySem.W.Frag} {neg : Bool} (h1 : ∀ ch l H Q, Q (.bl (neg ^^ decide (ch ∈ l))) H → r (Tx [ch]) (Tx l) H Q) (h2 : ∀ x y H Q, rIn K neg x y H Q → r x y H Q) : OpZ r (zInG0 neg) := by
  intro c L H x y dx dy Q R h wx wy hr k
  unfold zInG0 at hr
  have e : ∀ (b : Bool), (if neg = true then !b else b) = (neg ^^ b) := fun b => by cases neg <;> simp
  split at hr
  · obtain ⟨ch, rfl, hr⟩ := hr
    rw [wx.scal_str h, wy.scal_str h]
    exact h1 _ _ _ _ (k _ _ _ _ hr (h.bl _))
  · obtain ⟨v, e1, vs, e2, hr⟩ := hr
    obtain ⟨rfl, f1⟩ := wx.flt h e1
    obtain ⟨p, xs, rfl, g1, g2⟩ := wy.lst h
    obtain ⟨rfl, f2⟩ := flt_all g2 e2
    exact h2 _ _ _ _ ⟨_, _, rfl, .inl (SqL.of g1), f1, f2, by rw [e]; exact k _ _ _ _ hr (h.bl _)⟩
  · obtain ⟨v, e1, vs, e2, hr⟩ := hr
    obtain ⟨rfl, f1⟩ := wx.flt h e1
    obtain ⟨p, xs, rfl, _, g1, g2⟩ := wy.tup h
    obtain ⟨rfl, f2⟩ := flt_all g2 e2
    exact h2 _ _ _ _ ⟨_, _, rfl, .inr (.inl g1), f1, f2, by rw [e]; exact k _ _ _ _ hr (h.bl _)⟩
  · exact hr.elim
def zInG (neg : Bool) (x y : Dt) (R : DQ) : Prop := zInG0 neg (fgt x) (fgt y) R
theorem z_inG {r : R2} {K : PySem.W.Frag} {neg : Bool} (h1 : ∀ ch l H Q, Q (.bl (neg ^^ decide (ch ∈ l))) H → r (Tx [ch]) (Tx l) H Q) (h2 : ∀ x y H Q, rIn K neg x y H Q → r x y H Q) : OpZ r (zInG neg) := (z_inG0 h1 h2).fgt
abbrev zIn := zInG false
abbrev zNotIn := zInG true
theorem z_in {K : PySem.W.Frag} : OpZ (rInU K) zIn := z_inG (K := K) (fun _ _ _ _ q => w_inS (by simpa using q)) fun _ _ _ _ q => .inr q
theorem z_notIn {K : PySem.W.Frag} : OpZ (rNotInU K) zNotIn := z_inG (K := K) (fun _ _ _ _ q => w_notInS (by simpa using q)) fun _ _ _ _ q => .inr q
def ixOk (n : Nat) (i : Int) (k : Nat) : Prop := k < n ∧ (i = k ∨ i = (k : Int) - n)
theorem ixOk.at {α : Type} {xs : List α} {i : Int} {k : Nat} {v : α} (h : ixOk xs.length i k) (hv : xs[k]? = some v) : atI xs i = some v := by
  obtain ⟨h1, h2⟩ := h
  unfold atI ixN
  rcases h2 with e | e
  · rw [if_pos (by omega), if_pos (by omega)]
    simp only [Option.bind]
    rw [e]; simpa using hv
  · rw [if_neg (by omega), if_pos (by omega)]
    simp only [Option.bind]
    have : (i + (xs.length : Int)).toNat = k := by omega
    rw [this]; exact hv
def zIx0 (x y : Dt) (R : DQ) : Prop := match x, y with
  | .str l, .int i => l.length ≤ 16777216 ∧ ∃ k, ixOk l.length i k ∧ ∀ ch, l[k]? = some ch → R false (.str [ch])
  | .lst ds, .int i => ∃ k, ixOk ds.length i k ∧ ∀ d, ds[k]? = some d → R false d
  | .tup ds, .int i => ∃ k, ixOk ds.length i k ∧ ∀ d, ds[k]? = some d → R false d
  | _, _ => False
theorem z_ix0 {K : PySem.W.Frag} : OpZ (rIxU K) zIx0 := by
  intro c L H x y dx dy Q R h wx wy hr k
  unfold zIx0 at hr
  split at hr
  · obtain ⟨hl, j, hj, hr⟩ := hr
    rw [wx.scal_str h, wy.scal_int h]
    rename_i l i
    have hj1 := hj.1
    have hc : l[j]? = some l[j] := List.getElem?_eq_getElem hj.1
    exact .inl ⟨l, i, l[j], rfl, rfl, by rw [sizeLine_eq]; exact hl, hj.at hc, k _ _ _ _ (hr _ hc) (h.str _)⟩
  · obtain ⟨j, hj, hr⟩ := hr
    rename_i ds i
    obtain ⟨p, xs, rfl, g1, g2⟩ := wx.lst h
    rw [wy.scal_int h]
    have hj1 := hj.1
    have hc : ds[j]? = some ds[j] := List.getElem?_eq_getElem hj.1
    obtain ⟨v, hv, fv⟩ := g2.get hc
    exact .inr (.inr ⟨p, xs, i, v, rfl, rfl, SqL.of g1, ixOk.at (by rw [g2.length]; exact hj) hv, k _ _ _ _ (hr _ hc) (h.fr fv)⟩)
  · obtain ⟨j, hj, hr⟩ := hr
    rename_i ds i
    obtain ⟨p, xs, rfl, _, g1, g2⟩ := wx.tup h
    rw [wy.scal_int h]
    have hj1 := hj.1
    have hc : ds[j]? = some ds[j] := List.getElem?_eq_getElem hj.1
    obtain ⟨v, hv, fv⟩ := g2.get hc
    exact .inr (.inl ⟨p, xs, i, v, rfl, rfl, .inl g1, ixOk.at (by rw [g2.length]; exact hj) hv, k _ _ _ _ (hr _ hc) (h.fr fv)⟩)
  · exact hr.elim
def zIx (x y : Dt) (R : DQ) : Prop := zIx0 (fgt x) (fgt y) R
theorem z_ix {K : PySem.W.Frag} : OpZ (rIxU K) zIx := z_ix0.fgt
def rSlTZ : V → Option Int → Option Int → Hp → VK → Prop := fun x lo hi H Q => ∃ a xs, x = .ref a ∧ Rd H a (.tup xs) ∧ (cutL xs lo hi = xs → Q (.ref a) H) ∧ ∀ p, H p = none → Q (.ref p) (upd H p (.tup (cutL xs lo hi)))
theorem sl_TZ {X : Cx} : L2.SlR X rSlTZ := SlR.wk (r := rSlA X.K) sl_tupA fun x lo hi H Q ⟨a, xs, e, h, q, q'⟩ => ⟨a, xs, e, .inl h, fun c => q (cut_whole c), fun _ p hp => q' p hp⟩
def rSlZ : V → Option Int → Option Int → Hp → VK → Prop := fun x lo hi H Q => rSlX x lo hi H Q ∨ rSlLX x lo hi H Q ∨ rSlTZ x lo hi H Q
theorem sl_Z {X : Cx} : L2.SlR X rSlZ := SlR.or sl_X (SlR.or sl_LX sl_TZ)
def zSl0 (x : Dt) (lo hi : Option Int) (R : DQ) : Prop := match x with
  | .str l => l.length ≤ 16777216 ∧ R false (.str (cutL l lo hi))
  | .lst ds => R true (.lst (cutL ds lo hi))
  | .tup ds => R false (.tup (cutL ds lo hi))
  | _ => False
theorem FrAll.cut {A : Addr → Prop} {H : Hp} {ds : List Dt} {vs : List V} (lo hi : Option Int) (r : FrAll A H ds vs) : FrAll A H (cutL ds lo hi) (cutL vs lo hi) := by
  unfold cutL
  rw [r.length]
  exact (r.drop _).take _
theorem cutL_fix {α : Type} {l : List α} {lo hi : Option Int} (h : (cutL l lo hi).length = l.length) : cutL l lo hi = l := by
  unfold cutL at h ⊢
  rw [List.length_take, List.length_drop] at h
  by_cases e : l.length = 0
  · have : l = [] := List.eq_nil_of_length_eq_zero e
    subst this; simp
  · have e1 : HT.sIx l.length 0 lo = 0 := by omega
    rw [e1] at h ⊢
    rw [List.drop_zero]
    exact List.take_of_length_le (by omega)
theorem z_sl0 : ∀ (lo hi : Option Int), UnZ (fun x H Q => rSlZ x lo hi H Q) (fun x R => zSl0 x lo hi R) := by
  intro lo hi c L H x dx Q R h wx hr k
  unfold zSl0 at hr
  split at hr
  · rw [wx.scal_str h]
    exact .inl ⟨_, rfl, by rw [sizeLine_eq]; exact hr.1, k _ _ _ _ hr.2 (h.str _)⟩
  · obtain ⟨p, xs, rfl, g1, g2⟩ := wx.lst h
    exact .inr (.inl ⟨p, xs, rfl, g1, fun r H2 hp e h5 => k _ _ _ _ hr (h.newL (g2.cut lo hi) hp e h5)⟩)
  · obtain ⟨p, xs, rfl, g0, g1, g2⟩ := wx.tup h
    refine .inr (.inr ⟨p, xs, rfl, g1, fun e => k _ _ _ _ hr (h.fr ?_), fun r hp => k _ _ _ _ hr (h.newT (g2.cut lo hi) hp (Ex.new hp) upd_same)⟩)
    rename_i ds
    have : cutL ds lo hi = ds := cutL_fix (by
      have := (g2.cut lo hi).length
      rw [← this, e, g2.length])
    rw [this]
    exact ⟨p, xs, rfl, g0, g1, g2⟩
  · exact hr.elim
def zSl (x : Dt) (lo hi : Option Int) (R : DQ) : Prop := zSl0 (fgt x) lo hi R
theorem z_sl : ∀ (lo hi : Option Int), UnZ (fun x H Q => rSlZ x lo hi H Q) (fun x R => zSl x lo hi R) := fun lo hi => (z_sl0 lo hi).fgt
def zLen0 (x : Dt) (R : DQ) : Prop := match x with
  | .str l => l.length ≤ 16777216 ∧ R false (.int l.length)
  | .lst ds => R false (.int ds.length)
  | .tup ds => R false (.int ds.length)
  | _ => False
theorem z_len0 {K : PySem.W.Frag} : UnZ (fun x H Q => rLenU K [x] H Q) zLen0 := by
  intro c L H x dx Q R h wx hr k
  unfold zLen0 at hr
  split at hr
  · rw [wx.scal_str h]
    exact w_lenX (by rw [sizeLine_eq]; exact hr.1) (k _ _ _ _ hr.2 (h.int _))
  · obtain ⟨p, xs, rfl, g1, g2⟩ := wx.lst h
    refine w_lenL g1 ?_
    rw [g2.length]
    exact k _ _ _ _ hr (h.int _)
  · obtain ⟨p, xs, rfl, g0, g1, g2⟩ := wx.tup h
    refine w_lenU g1 ?_
    rw [g2.length]
    exact k _ _ _ _ hr (h.int _)
  · exact hr.elim
def zLen (x : Dt) (R : DQ) : Prop := zLen0 (fgt x) R
theorem z_len {K : PySem.W.Frag} : UnZ (fun x H Q => rLenU K [x] H Q) zLen := z_len0.fgt
def zAbs (x : Dt) (R : DQ) : Prop := match x with
  | .int i => R false (.int (if i < 0 then -i else i))
  | _ => False
theorem z_abs : UnZ (fun x H Q => (fun xs (H : Hp) (Q : VK) => ∃ i, xs = [V.int i] ∧ Q (.int (if i < 0 then -i else i)) H) [x] H Q) zAbs := by
  intro c L H x dx Q R h wx hr k
  unfold zAbs at hr
  split at hr
  · rw [wx.scal_int h]
    exact ⟨_, rfl, k _ _ _ _ hr (h.int _)⟩
  · exact hr.elim
def zAll (x : Dt) (R : DQ) : Prop := match x with
  | .lst ds => ∃ bs : List Bool, ds = bs.map .bl ∧ R false (.bl (bs.all id))
  | _ => False
theorem z_all {K : PySem.W.Frag} : UnZ (fun x H Q => rAll K [x] H Q) zAll := by
  intro c L H x dx Q R h wx hr k
  unfold zAll at hr
  split at hr
  · obtain ⟨bs, rfl, hr⟩ := hr
    obtain ⟨p, xs, rfl, g1, g2⟩ := wx.lst h
    rw [g2.bls_inv] at g1
    exact w_all g1 (k _ _ _ _ hr (h.bl _))
  · exact hr.elim
/-- list(..) -/
def zList0 (x : Dt) (R : DQ) : Prop := match x with
  | .str l => l.length ≤ 16777216 ∧ R true (.lst (l.map fun ch => .str [ch]))
  | .lst ds => R true (.lst ds)
  | .tup ds => R true (.lst ds)
  | _ => False
theorem FrAll.signs {A : Addr → Prop} {H : Hp} (l : List Nat) : FrAll A H (l.map fun ch => .str [ch]) (l.map fun ch => Tx [ch]) := by
  have := FrAll.strs (A := A) (H := H) (l.map fun ch => [ch])
  rw [List.map_map, List.map_map] at this
  exact this
theorem z_list0 {K : PySem.W.Frag} : UnZ (fun x H Q => rListU K [x] H Q) zList0 := by
  intro c L H x dx Q R h wx hr k
  unfold zList0 at hr
  split at hr
  · rw [wx.scal_str h]
    exact w_listX (by rw [sizeLine_eq]; exact hr.1) fun r H2 hp e h5 => k _ _ _ _ hr.2 (h.newL (FrAll.signs _) hp e h5)
  · obtain ⟨p, xs, rfl, g1, g2⟩ := wx.lst h
    exact w_listL g1 fun r H2 hp e h5 => k _ _ _ _ hr (h.newL g2 hp e h5)
  · obtain ⟨p, xs, rfl, g0, g1, g2⟩ := wx.tup h
    exact w_listU g1 fun r H2 hp e h5 => k _ _ _ _ hr (h.newL g2 hp e h5)
  · exact hr.elim
def zList (x : Dt) (R : DQ) : Prop := zList0 (fgt x) R
theorem z_list {K : PySem.W.Frag} : UnZ (fun x H Q => rListU K [x] H Q) zList := z_list0.fgt
/-- text[::-1], list[::-1] -/
def zRev (x : Dt) (R : DQ) : Prop := match x with
  | .str l => l.length ≤ 16777216 ∧ R false (.str l.reverse)
  | _ => False
def zRevL (x : Dt) (R : DQ) : Prop := match x with
  | .lst ds => R true (.lst ds.reverse)
  | _ => False
theorem z_rev : UnZ (fun x (H1 : Hp) (Q : VK) => ∃ l, x = Tx l ∧ l.length ≤ sizeLine ∧ Q (Tx l.reverse) H1) zRev := by
  intro c L H x dx Q R h wx hr k
  unfold zRev at hr
  split at hr
  · rw [wx.scal_str h]
    exact ⟨_, rfl, by rw [sizeLine_eq]; exact hr.1, k _ _ _ _ hr.2 (h.str _)⟩
  · exact hr.elim
/-- isinstance(x, ..) -/
def tyD : Dt → String
  | .non => "NoneType" | .bl _ => "bool" | .int _ => "int" | .str _ => "str" | .tup _ => "tuple" | .tpk _ => "tuple" | .lst _ => "list" | .dic _ _ => "dict" | .dice => "list" | .val _ => "" | .ob _ _ => ""
def zIs (n : String) (x : Dt) (R : DQ) : Prop := match x with
  | .dice => False
  | .val _ => False
  | .ob _ _ => False
  | .dic _ _ => False
  | x => R false (.bl (isiB (tyD x) n))
theorem z_is {n : String} (hn : n ∈ ["int", "bool", "str", "tuple", "list"]) : UnZ (fun x H Q => rIsU [x, .ty n] H Q) (zIs n) := by
  intro c L H x dx Q R h wx hr k
  unfold zIs at hr
  split at hr
  · exact hr.elim
  · exact hr.elim
  · exact hr.elim
  · exact hr.elim
  · rename_i h1 h2 h4 h3
    cases dx
    · rw [wx.scal_non h]; exact w_is .non hn (k _ _ _ _ hr (h.bl _))
    · rw [wx.scal_bl h]; exact w_is (.bl _) hn (k _ _ _ _ hr (h.bl _))
    · rw [wx.scal_int h]; exact w_is (.int _) hn (k _ _ _ _ hr (h.bl _))
    · rw [wx.scal_str h]; exact w_is (.str _) hn (k _ _ _ _ hr (h.bl _))
    · obtain ⟨p, xs, rfl, g0, g1, g2⟩ := wx.tup h
      exact w_is (.tup g1) hn (k _ _ _ _ hr (h.bl _))
    · obtain ⟨p, xs, o, rfl, _, g1, _, _⟩ := wx.tpk h
      exact w_is (.tup (.inr ⟨o, g1⟩)) hn (k _ _ _ _ hr (h.bl _))
    · obtain ⟨p, xs, rfl, g1, g2⟩ := wx.lst h
      exact w_is (.lst g1) hn (k _ _ _ _ hr (h.bl _))
    · exact absurd rfl (h3 _ _)
    · exact absurd rfl h1
    · exact absurd rfl (h2 _)
    · exact absurd rfl (h4 _ _)
/-- x.join(..) -/
def zJoin0 (x y : Dt) (R : DQ) : Prop := match x, y with
  | .str a, .lst ds => ∃ ls : List (List Nat), ds = ls.map .str ∧ (ls.map (·.length)).sum + ls.length * a.length ≤ 16777216 ∧ R false (.str (TL.joinL a ls))
  | .str a, .tup ds => ∃ ls : List (List Nat), ds = ls.map .str ∧ (ls.map (·.length)).sum + ls.length * a.length ≤ 16777216 ∧ R false (.str (TL.joinL a ls))
  | _, _ => False
theorem z_join0 {K : PySem.W.Frag} : OpZ (fun x y H Q => tyV K "str" x H ∧ rJoinX K x [y] H Q) zJoin0 := by
  intro c L H x y dx dy Q R h wx wy hr k
  unfold zJoin0 at hr
  split at hr
  · obtain ⟨ls, rfl, hl, hr⟩ := hr
    rw [wx.scal_str h]
    obtain ⟨p, xs, rfl, g1, g2⟩ := wy.lst h
    rw [g2.strs_inv] at g1
    exact ⟨ty_str, _, _, _, rfl, rfl, .inl (SqL.of g1), hl, k _ _ _ _ hr (h.str _)⟩
  · obtain ⟨ls, rfl, hl, hr⟩ := hr
    rw [wx.scal_str h]
    obtain ⟨p, xs, rfl, _, g1, g2⟩ := wy.tup h
    rw [g2.strs_inv] at g1
    exact ⟨ty_str, _, _, _, rfl, rfl, .inr (.inl g1), hl, k _ _ _ _ hr (h.str _)⟩
  · exact hr.elim
def zJoin (x y : Dt) (R : DQ) : Prop := zJoin0 (fgt x) (fgt y) R
theorem z_join {K : PySem.W.Frag} : OpZ (fun x y H Q => tyV K "str" x H ∧ rJoinX K x [y] H Q) zJoin := z_join0.fgt
end Lt
namespace Lt
open PySem PySem.Spec PyProof.Rows L2 Evl
open SX (S)
variable [ZI]
inductive Opd where
  | e (tp : PTE) | s (k : Nat) | c (k : Nat)
@[reducible] def pSl (s : PSt) (k : Nat) : Option Dt := match s[k]? with
  | some (.fz d) => some d
  | some (.ow d) => some d
  | _ => none
/-- .. of a cluster, looked at as a whole -/
@[reducible] def pSlC (s : PSt) (k : Nat) : Option Dt := match s[k]? with
  | some (.cl C) => C.dv
  | _ => none
@[reducible] def pOpd : Opd → PSt → ((PSt → Option Dt) → PSt → Prop) → Prop
  | .e tp, s, Q => tp s fun _ d s' => Q (fun _ => some d) s'
  | .s k, s, Q => match pSl s k with
    | none => False
    | some _ => Q (fun s' => pSl s' k) s
  | .c k, s, Q => match pSlC s k with
    | none => False
    | some _ => Q (fun s' => pSlC s' k) s
def CO (c : Ctx) (t : TE) (o : Opd) : Prop := ∀ (F : List Pc) (s : PSt) (σ : L2.St) (H : Hp) (Q : VK) (R : (PSt → Option Dt) → PSt → Prop), Rel c s σ F H → pOpd o s R →
  (∀ g s' v H' F', R g s' → Rel c s' σ (F' ++ F) H' → (∀ s2 F2 H2 d, g s2 = some d → Rel c s2 σ (F2 ++ (F' ++ F)) H2 → Wk (s2.zip σ ++ (F2 ++ (F' ++ F))) d v) → Q v H') → t σ H Q
section
variable {c : Ctx} {t ta tb tc : TE} {tp pa pb : PTE} {o oa ob oc : Opd} {r r' : R2} {rp rp' : Dt → Dt → DQ → Prop}
theorem Rel.res {s : PSt} {σ : L2.St} {F F2 : List Pc} {H : Hp} {x : Pc} (e : s.length = σ.length) (h : RelL c (x :: (s.zip σ ++ (F2 ++ F))) H) : Rel c s σ (x :: F) H :=
  (Rel.of_top e h).sub (.cons_cons _ (List.sublist_append_right _ _))
theorem co_e (h : CE c t tp) : CO c t (.e tp) := fun F s σ H Q R hr hp k => h F s σ H Q _ hr hp fun b d s' v H' q hr' =>
  k _ s' v H' [(.fz d, some v)] q hr'.mkfz fun s2 F2 H2 d' e _ => by
    cases e
    exact .inl (List.mem_append_right _ (List.mem_append_right _ (List.mem_append_left _ (List.mem_singleton.mpr rfl))))
theorem pSl_some {s : PSt} {k : Nat} {d : Dt} (h : pSl s k = some d) : s[k]? = some (.fz d) ∨ s[k]? = some (.ow d) := by
  unfold pSl at h
  split at h <;> cases h
  · exact .inl (by assumption)
  · exact .inr (by assumption)
theorem Rel.slot {s : PSt} {σ : L2.St} {F : List Pc} {H : Hp} {k : Nat} {d : Dt} (h : Rel c s σ F H) (e : pSl s k = some d) : ∃ v, σ[k]? = some (some v) ∧ Wk (s.zip σ) d v := by
  rcases pSl_some e with e | e
  · obtain ⟨b, hb, hm⟩ := mem_zip h.1 e
    have := h.2.ok _ (List.mem_append_left _ hm)
    cases b with
    | none => exact this.elim
    | some v => exact ⟨v, hb, .inl hm⟩
  · obtain ⟨b, hb, hm⟩ := mem_zip h.1 e
    have := h.2.ok _ (List.mem_append_left _ hm)
    cases b with
    | none => exact this.elim
    | some v => exact ⟨v, hb, .inr (.inl hm)⟩
theorem co_s (k : Nat) : CO c (tVar k) (.s k) := fun F s σ H Q R hr hp kk => by
  cases hd : pSl s k with
  | none => simp [pOpd, hd] at hp
  | some d =>
    have hp : R (fun s' => pSl s' k) s := by simpa [pOpd, hd] using hp
    obtain ⟨v, hv, hw⟩ := hr.slot hd
    refine ⟨v, hv, kk _ s v H [] hp hr fun s2 F2 H2 d' e h2 => ?_⟩
    obtain ⟨v', hv', hw'⟩ := h2.slot e
    rw [hv] at hv'
    cases hv'
    rcases hw' with q | q | ⟨C, u, q, hl⟩
    · exact .inl (List.mem_append_left _ q)
    · exact .inr (.inl (List.mem_append_left _ q))
    · exact .inr (.inr ⟨C, u, List.mem_append_left _ q, hl⟩)
@[reducible] def pOp (rp : Dt → Dt → DQ → Prop) (oa ob : Opd) : PTE := fun s Q => pOpd oa s fun ga s1 => pOpd ob s1 fun gb s2 => match ga s2, gb s2 with
  | some x, some y => rp x y fun b d => Q b d s2
  | _, _ => False
theorem ce_op (ha : CO c ta oa) (hb : CO c tb ob) (hr : OpZ r rp) : CE c (tOp r ta tb) (pOp rp oa ob) := fun F s σ H Q R h hp k =>
  ha F s σ H _ _ h hp fun ga s1 v1 H1 F1 q1 h1 w1 => hb _ s1 σ H1 _ _ h1 q1 fun gb s2 v2 H2 F2 q2 h2 w2 => by
    split at q2
    · rename_i x y ex ey
      refine hr c _ H2 v1 v2 x y Q _ h2.2 (w1 s2 F2 H2 x ex h2) (w2 s2 [] H2 y ey h2) q2 fun b d v H' rd hl => k _ _ _ _ _ rd ?_
      exact Rel.res (F2 := F2 ++ F1) h2.1 (by rw [List.append_assoc]; exact hl)
    · exact q2.elim
@[reducible] def pUn (rp : Dt → DQ → Prop) (oa : Opd) : PTE := fun s Q => pOpd oa s fun ga s1 => match ga s1 with
  | some x => rp x fun b d => Q b d s1
  | _ => False
theorem un_core {r : V → Hp → VK → Prop} {rp : Dt → DQ → Prop} (ha : CO c ta oa) (hr : UnZ r rp) : CE c (fun σ H Q => ta σ H fun x H1 => r x H1 Q) (pUn rp oa) := fun F s σ H Q R h hp k =>
  ha F s σ H _ _ h hp fun ga s1 v1 H1 F1 q1 h1 w1 => by
    split at q1
    · rename_i x ex
      exact hr c _ H1 v1 x Q _ h1.2 (w1 s1 [] H1 x ex h1) q1 fun b d v H' rd hl => k _ _ _ _ _ rd (Rel.res (F2 := F1) h1.1 hl)
    · exact q1.elim
theorem ce_un {r : V → Hp → VK → Prop} {rp : Dt → DQ → Prop} (ha : CO c ta oa) (hr : UnZ r rp) : CE c (tUn r ta) (pUn rp oa) := un_core (ta := ta) ha hr
theorem ce_cb1 {r : List V → Hp → VK → Prop} {rp : Dt → DQ → Prop} (ha : CO c ta oa) (hr : UnZ (fun x H Q => r [x] H Q) rp) : CE c (tCB r (tCons ta tNil)) (pUn rp oa) := un_core (ta := ta) ha hr
theorem ce_is {n : String} (ha : CO c ta oa) (hn : n ∈ ["int", "bool", "str", "tuple", "list"]) : CE c (tCB rIsU (tCons ta (tCons (tC (.ty n)) tNil))) (pUn (zIs n) oa) := un_core (ta := ta) ha (z_is hn)
theorem ce_rev (ha : CO c ta oa) : CE c (tRevX ta) (pUn zRev oa) := un_core (ta := ta) ha z_rev
/-- names, constants -/
@[reducible] def pVar (k : Nat) : PTE := fun s Q => match s[k]? with
  | some (.fz d) => Q false d s
  | some (.ow d) => Q false d (s.set k (.fz d))
  | _ => False
theorem ce_var (k : Nat) : CE c (tVar k) (pVar k) := fun F s σ H Q R h hp kk => by
  unfold pVar at hp
  split at hp
  · rename_i d e
    obtain ⟨v, hv, h2⟩ := h.get e
    exact ⟨v, hv, kk _ _ _ _ _ hp h2⟩
  · rename_i d e
    have h1 := h.frz e
    have hk := (List.getElem?_eq_some_iff.mp e).1
    obtain ⟨v, hv, h2⟩ := h1.get (k := k) (d := d) (by rw [List.getElem?_set_self hk])
    exact ⟨v, hv, kk _ _ _ _ _ hp h2⟩
  · exact hp.elim
@[reducible] def pC (d : Dt) : PTE := fun s Q => Q false d s
theorem ce_c {d : Dt} {v : V} (hd : ∀ A H, Fr A H d v) : CE c (tC v) (pC d) := fun F s σ H Q R h hp kk => kk _ _ _ _ _ hp (.of_top h.1 (h.2.fr (hd _ _)))
theorem ce_int {i : Int} : CE c (tC (.int i)) (pC (.int i)) := ce_c fun _ _ => rfl
theorem ce_str {l : List Nat} : CE c (tC (Tx l)) (pC (.str l)) := ce_c fun _ _ => rfl
theorem ce_bl {b : Bool} : CE c (tC (.bl b)) (pC (.bl b)) := ce_c fun _ _ => rfl
theorem ce_non : CE c (tC .non) (pC .non) := ce_c fun _ _ => rfl
theorem ce_cut0 (h : CE c t tp) : CE c (tCutE t) tp := fun F s σ H Q R hr hp k => ⟨Q, h F s σ H Q R hr hp k, fun _ _ q => q⟩
/-- slices -/
theorem cp_no : CP c tNoPart (fun s Q => Q none s) := fun F s σ H Q R h hp k => k _ _ _ hp h
@[reducible] def pPart (tp : PTE) : PTO := fun s Q => tp s fun _ d s' => match d with
  | .int i => Q (some i) s'
  | _ => False
theorem cp_part (h : CE c t tp) : CP c (tPart t) (pPart tp) := fun F s σ H Q R hr hp k => h F s σ H _ _ hr hp fun b d s' v H' q hr' => by
  split at q
  · rename_i i
    have : v = .int i := hr'.mkfz.top.ok _ (List.mem_cons_self ..)
    exact ⟨i, this, k _ _ _ q hr'.drop⟩
  · exact q.elim
@[reducible] def pSlc (oa : Opd) (pl ph : PTO) : PTE := fun s Q => pOpd oa s fun ga s1 => pl s1 fun lo s2 => ph s2 fun hi s3 => match ga s3 with
  | some x => zSl x lo hi fun b d => Q b d s3
  | _ => False
theorem ce_sl {tl th : L2.TO} {pl ph : PTO} (ha : CO c ta oa) (hl : CP c tl pl) (hh : CP c th ph) : CE c (tSl rSlZ ta tl th) (pSlc oa pl ph) := fun F s σ H Q R h hp k =>
  ha F s σ H _ _ h hp fun ga s1 v1 H1 F1 q1 h1 w1 => hl _ s1 σ H1 _ _ h1 q1 fun lo s2 H2 q2 h2 => hh _ s2 σ H2 _ _ h2 q2 fun hi s3 H3 q3 h3 => by
    split at q3
    · rename_i x ex
      exact z_sl lo hi c _ H3 v1 x Q _ h3.2 (w1 s3 [] H3 x ex h3) q3 fun b d v H' rd hl => k _ _ _ _ _ rd (Rel.res (F2 := F1) h3.1 hl)
    · exact q3.elim
/-- argument lists, displays -/
@[reducible] def pNil : PTA := fun s Q => Q [] s
@[reducible] def pCons (pa : PTE) (pr : PTA) : PTA := fun s Q => pa s fun _ d s1 => pr s1 fun ds s2 => Q (d :: ds) s2
theorem ca_nil : CA c tNil pNil := fun F s σ H Q R h hp k => k _ _ _ _ hp rfl h
theorem ca_cons {tr : TA} {pr : PTA} (ha : CE c ta pa) (hb : CA c tr pr) : CA c (tCons ta tr) (pCons pa pr) := fun F s σ H Q R h hp k =>
  ha F s σ H _ _ h hp fun b d s1 v H1 q1 h1 => hb _ s1 σ H1 _ _ h1.mkfz q1 fun ds s2 vs H2 q2 e h2 => k _ _ _ _ q2 (by simp [e]) (by
    refine h2.perm ?_
    show (fzs ds vs ++ (_ :: F)).Perm (_ :: fzs ds vs ++ F)
    exact List.perm_middle)
theorem owns_fzs {L : List Pc} : ∀ {ds : List Dt} {vs : List V}, owns (fzs ds vs ++ L) = owns L
  | [], _ => by unfold fzs; simp
  | _ :: _, [] => by unfold fzs; simp
  | d :: ds, v :: vs => by
    show owns (fzs ds vs ++ L) = owns L
    exact owns_fzs
theorem fzs_all {ds : List Dt} : ∀ {vs : List V} {L : List Pc} {H : Hp}, ds.length = vs.length → RelL c (fzs ds vs ++ L) H → FrAll (Al c L) H ds vs := by
  induction ds with
  | nil => intro vs L H e _; exact List.eq_nil_of_length_eq_zero e.symm
  | cons d ds ih =>
    intro vs L H e h
    cases vs with
    | nil => cases e
    | cons v vs =>
      have e' : ds.length = vs.length := by simpa using e
      have o : owns (fzs (d :: ds) (v :: vs) ++ L) = owns L := by
        clear ih h e
        show owns (fzs ds vs ++ L) = owns L
        exact owns_fzs
      have h0 := h.ok (.fz d, some v) (List.mem_append_left _ (by unfold fzs; rw [List.zipWith_cons_cons]; exact List.mem_cons_self ..))
      have ea : Al c (fzs (d :: ds) (v :: vs) ++ L) = Al c L := by funext a; unfold Al; rw [o]
      rw [ea] at h0
      exact .cons h0 (ih e' (RelL.drop (x := (.fz d, some v)) h))
theorem fzs_drop {ds : List Dt} {vs : List V} {s : PSt} {σ : L2.St} {F : List Pc} {H : Hp} (h : Rel c s σ (fzs ds vs ++ F) H) : Rel c s σ F H := h.sub (List.sublist_append_right _ _)
theorem fzs_fr {ds : List Dt} {vs : List V} {s : PSt} {σ : L2.St} {F : List Pc} {H : Hp} (e : ds.length = vs.length) (h : Rel c s σ (fzs ds vs ++ F) H) : FrAll (Al c (s.zip σ ++ F)) H ds vs :=
  fzs_all e (h.2.perm (by
    rw [← List.append_assoc, ← List.append_assoc]
    exact List.Perm.append List.perm_append_comm (.refl _)))
@[reducible] def pTup (pa : PTA) : PTE := fun s Q => pa s fun ds s' => ds.length ≤ 1000 ∧ Q false (.tup ds) s'
@[reducible] def pLst (pa : PTA) : PTE := fun s Q => pa s fun ds s' => ds.length ≤ 1000 ∧ Q true (.lst ds) s'
theorem ce_tup {t : TA} {pa : PTA} (ha : CA c t pa) : CE c (tTupX t) (pTup pa) := fun F s σ H Q R h hp k =>
  ha F s σ H _ _ h hp fun ds s1 vs H1 ⟨hl, q⟩ e h1 => ⟨by rw [← e, sizeLine_eq]; omega, fun p H2 hn ex h2 => k _ _ _ _ _ q (.of_top h1.1 ((fzs_drop h1).2.newT (fzs_fr e h1) hn ex h2))⟩
theorem ce_lst {t : TA} {pa : PTA} (ha : CA c t pa) : CE c (tLstX t) (pLst pa) := fun F s σ H Q R h hp k =>
  ha F s σ H _ _ h hp fun ds s1 vs H1 ⟨hl, q⟩ e h1 => ⟨by rw [← e, sizeLine_eq]; omega, fun p H2 hn ex h2 => k _ _ _ _ _ q (.of_top h1.1 ((fzs_drop h1).2.newL (fzs_fr e h1) hn ex h2))⟩
/-- if-expressions, and, or, not, chains -/
@[reducible] def pIf (tt : PTT) (pa pb : PTE) : PTE := fun s Q => tt s fun b s1 => if b = true then pa s1 Q else pb s1 Q
theorem ce_if {tt : TT} {pt : PTT} (ht : CT c tt pt) (ha : CE c ta pa) (hb : CE c tb pb) : CE c (tIf tt ta tb) (pIf pt pa pb) := fun F s σ H Q R h hp k =>
  ht F s σ H _ _ h hp fun b s1 H1 q h1 => by
    cases b with
    | true => exact ha F s1 σ H1 Q R h1 (by simpa using q) k
    | false => exact hb F s1 σ H1 Q R h1 (by simpa using q) k
theorem bl_of {s : PSt} {σ : L2.St} {F : List Pc} {H : Hp} {b k : Bool} {v : V} (h : Rel c s σ ((mkS b (.bl k), some v) :: F) H) : v = .bl k := h.mkfz.top.ok _ (List.mem_cons_self ..)
theorem int_of {s : PSt} {σ : L2.St} {F : List Pc} {H : Hp} {b : Bool} {k : Int} {v : V} (h : Rel c s σ ((mkS b (.int k), some v) :: F) H) : v = .int k := h.mkfz.top.ok _ (List.mem_cons_self ..)
theorem str_of {s : PSt} {σ : L2.St} {F : List Pc} {H : Hp} {b : Bool} {k : List Nat} {v : V} (h : Rel c s σ ((mkS b (.str k), some v) :: F) H) : v = Tx k := h.mkfz.top.ok _ (List.mem_cons_self ..)
theorem Rel.bl {s : PSt} {σ : L2.St} {F : List Pc} {H : Hp} (h : Rel c s σ F H) (k : Bool) : Rel c s σ ((mkS false (.bl k), some (.bl k)) :: F) H := .of_top h.1 (h.2.bl k)
@[reducible] def pB (tp : PTE) : PTT := fun s Q => tp s fun _ d s' => match d with
  | .bl k => Q k s'
  | _ => False
theorem ct_B (h : CE c t tp) : CT c (tB t) (pB tp) := fun F s σ H Q R hr hp k => h F s σ H _ _ hr hp fun b d s' v H' q hr' => by
  split at q
  · exact ⟨_, bl_of hr', k _ _ _ q hr'.drop⟩
  · exact q.elim
theorem ct_test (h : CE c t tp) : CT c (tTest t) (pB tp) := ct_B h
variable {tt tu : TT} {pt pu : PTT}
@[reducible] def pAnd (pt pu : PTT) : PTT := fun s Q => pt s fun b s1 => if b = true then pu s1 Q else Q false s1
@[reducible] def pOr (pt pu : PTT) : PTT := fun s Q => pt s fun b s1 => if b = true then Q true s1 else pu s1 Q
@[reducible] def pNot (pt : PTT) : PTT := fun s Q => pt s fun b s1 => Q (!b) s1
theorem ct_and (ha : CT c tt pt) (hb : CT c tu pu) : CT c (tAnd tt tu) (pAnd pt pu) := fun F s σ H Q R h hp k => ha F s σ H _ _ h hp fun b s1 H1 q h1 => by
  cases b with
  | true => exact hb F s1 σ H1 Q R h1 (by simpa using q) k
  | false => exact k _ _ _ (by simpa using q) h1
theorem ct_or (ha : CT c tt pt) (hb : CT c tu pu) : CT c (tOr tt tu) (pOr pt pu) := fun F s σ H Q R h hp k => ha F s σ H _ _ h hp fun b s1 H1 q h1 => by
  cases b with
  | true => exact k _ _ _ (by simpa using q) h1
  | false => exact hb F s1 σ H1 Q R h1 (by simpa using q) k
theorem ct_not (ha : CT c tt pt) : CT c (tNot tt) (pNot pt) := fun F s σ H Q R h hp k => ha F s σ H _ _ h hp fun b s1 H1 q h1 => k _ _ _ q h1
theorem ct_cut0 (h : CT c tt pt) : CT c (tCutT tt) pt := fun F s σ H Q R hr hp k => ⟨Q, h F s σ H Q R hr hp k, fun _ _ q => q⟩
@[reducible] def pYes : PTT := fun s Q => Q true s
theorem ct_yes : CT c tYes pYes := fun F s σ H Q R h hp k => k _ _ _ hp h
/-- a program without special objects -/
def ziE : ZI where
  ch _ := False
  ch_fix _ h := h
  ch_ext h := h.elim
  sp _ _ _ a b := a = b
  sp_rfl _ := rfl
  sp_trans h _ k := h.trans k
  sp_ch h := .inl h.symm
  Z _ := True
  ob _ _ _ _ _ := False
  ob_ref h := h.elim
  ob_mono _ h := h.elim
  ob_lock _ h := h.elim
abbrev PF := List Dt → DQ → Prop
def PureOf (sp : Sp) (pf : PF) (E : XK) : Prop := ∀ (c : Ctx) (L : List Pc) (H : Hp) (vs : List V) (ds : List Dt) (Q : VK) (R : DQ), RelL c L H → FrAll (Al c L) H ds vs → pf ds R → (∀ b d v H', R b d → RelL (subCtx c L H) [(mkS b d, some v)] H' → Q v H') → sp vs H Q E
def baseCtx (A Zd : Addr → Prop) (H : Hp) : Ctx := ⟨H, fun a => A a ∨ H a = none, fun _ => .inr, fun b => H b ≠ none ∧ Zd b, fun _ h => h.1⟩
/-- the special objects of a heap -/
def IvH (H : Hp) : Prop := ∃ Hz, ZI.Z Hz ∧ ∀ b o, Hz b = some o → H b = some o ∧ zO o = true
theorem ivE {H : Hp} : @IvH ziE H := ⟨fun _ => none, trivial, fun _ _ h => nomatch h⟩
theorem IvH.ex {H H' : Hp} (h : IvH H) (e : Ex H H') : IvH H' := by
  obtain ⟨Hz, h1, h2⟩ := h
  exact ⟨Hz, h1, fun b o k => ⟨e _ _ (h2 b o k).1, (h2 b o k).2⟩⟩
theorem IvH.base {H : Hp} {A : Addr → Prop} (h : IvH H) : Iv (baseCtx A (fun _ => True) H) H := by
  obtain ⟨Hz, h1, h2⟩ := h
  exact ⟨Hz, h1, fun b o k => ⟨(h2 b o k).1, (h2 b o k).2, .inl ⟨by rw [(h2 b o k).1]; simp, trivial⟩⟩⟩
/-- a def's promise, of data -/
def spZ (pf : PF) : Sp := fun vs H Q _ => ∃ (A Zd : Addr → Prop) (ds : List Dt) (R : DQ), FrAll A H ds vs ∧ Iv (baseCtx A Zd H) H ∧ pf ds R ∧ ∀ b d v H', R b d → RelL (baseCtx A Zd H) [(mkS b d, some v)] H' → Q v H'
theorem pure_spZ {pf : PF} {E : XK} : PureOf (spZ pf) pf E := fun c L H vs ds Q R h hf hp k => ⟨Al c L, fun b => c.Zd b ∨ c.H0 b = none, ds, R, hf, Iv.sub h, hp, k⟩
@[reducible] def pCall (pf : PF) (pa : PTA) : PTE := fun s Q => pa s fun ds s' => pf ds fun b d => Q b d s'
theorem ce_call {sp : Sp} {pf : PF} {E : XK} {t : TA} {pa : PTA} (ha : CA c t pa) (hf : PureOf sp pf E) : CE c (tCall sp [] E t) (pCall pf pa) := fun F s σ H Q R h hp k =>
  ha F s σ H _ _ h hp fun ds s1 vs H1 q e h1 => by
    show sp (vs ++ []) H1 Q E
    rw [List.append_nil]
    exact hf c _ H1 vs ds Q _ (fzs_drop h1).2 (fzs_fr e h1) q fun b d v H' rd hl => k _ _ _ _ _ rd (.of_top h1.1 ((fzs_drop h1).2.call hl))
end
end Lt
namespace Lt
open PySem PySem.Spec PyProof.Rows L2 Evl
open SX (S)
variable [ZI]
section
variable {c : Ctx} {t ta tb tc : TE} {tp pa pb : PTE} {o oa ob oc : Opd} {r r' : R2} {rp rp' : Dt → Dt → DQ → Prop} {ts us : TS} {ps pu : PTS} {K : PySem.W.Frag}
/-- .. with more pieces about -/
theorem Lk.rs' {F : List Pc} {D : Ends} {P : PEnds} (h : Lk c F D P) (F' : List Pc) : ∀ s σ sl v H, P.rs s sl → Rel c s σ ((sl, some v) :: (F' ++ F)) H → D.rt v H := fun s σ sl v H q r => h.rs s σ sl v H q (r.sub (.cons_cons _ (List.sublist_append_right _ _)))
@[reducible] def pSeq (a b : PTS) : PTS := fun P s => a { P with nx := b P } s
theorem Lk.nxt {F : List Pc} {D : Ends} {P : PEnds} (h : Lk c F D P) {f : L2.St → Hp → Prop} {g : PSt → Prop} (k : ∀ s σ H, g s → Rel c s σ F H → f σ H) : Lk c F { D with nx := f } { P with nx := g } := ⟨k, h.rt, h.bk, h.ct, h.rs⟩
theorem cs_seq (ha : CS c ts ps) (hb : CS c us pu) : CS c (tSeq ts us) (pSeq ps pu) := fun F s σ H D P h hp k =>
  ha F s σ H _ _ h hp (k.nxt fun s1 σ1 H1 q h1 => hb F s1 σ1 H1 D P h1 q k)
@[reducible] def pNext : PTS := fun P s => P.nx s
theorem cs_next : CS c tNext pNext := fun F s σ H D P h hp k => k.nx _ _ _ hp h
@[reducible] def pSet (i : Nat) (tp : PTE) : PTS := fun P s => tp s fun b d s' => P.nx (s'.set i (mkS b d))
theorem cs_set {i : Nat} (h : CE c t tp) : CS c (tAsg t (gName i)) (pSet i tp) := fun F s σ H D P hr hp k =>
  h F s σ H _ _ hr hp fun b d s' v H' q hr' => k.nx _ _ _ q (hr'.set i)
@[reducible] def pAsg (tp : PTE) (gp : PTG) : PTS := fun P s => tp s fun _ d s' => gp d s' P.nx
theorem cs_asg {g : TG} {gp : PTG} {vs : List Nat} (h : CE c t tp) (hg : CG c vs g gp) : CS c (tAsg t g) (pAsg tp gp) := fun F s σ H D P hr hp k =>
  h F s σ H _ _ hr hp fun b d s' v H' q hr' => hg F s' σ H' d v _ _ hr'.mkfz q fun s2 σ2 q2 h2 _ => k.nx _ _ _ q2 h2
@[reducible] def pPar (i j : Nat) (pa pb : PTE) : PTS := fun P s => pa s fun b1 d1 s1 => pb s1 fun b2 d2 s2 => P.nx ((s2.set i (mkS b1 d1)).set j (mkS b2 d2))
theorem cs_par {i j : Nat} (ha : CE c ta pa) (hb : CE c tb pb) : CS c (tPar i j (tCons ta (tCons tb tNil))) (pPar i j pa pb) := fun F s σ H D P hr hp k =>
  ha F s σ H _ _ hr hp fun b1 d1 s1 v1 H1 q1 h1 => hb _ s1 σ H1 _ _ h1 q1 fun b2 d2 s2 v2 H2 q2 h2 => ⟨v1, v2, rfl, k.nx _ _ _ q2 (Rel.set (Rel.set (h2.perm (List.Perm.swap ..)) i) j)⟩
@[reducible] def pPar3 (i j l : Nat) (pa pb pc : PTE) : PTS := fun P s => pa s fun b1 d1 s1 => pb s1 fun b2 d2 s2 => pc s2 fun b3 d3 s3 => P.nx (((s3.set i (mkS b1 d1)).set j (mkS b2 d2)).set l (mkS b3 d3))
theorem cs_par3 {i j l : Nat} {pc : PTE} (ha : CE c ta pa) (hb : CE c tb pb) (hcc : CE c tc pc) : CS c (tPar3 i j l (tCons ta (tCons tb (tCons tc tNil)))) (pPar3 i j l pa pb pc) := fun F s σ H D P hr hp k =>
  ha F s σ H _ _ hr hp fun b1 d1 s1 v1 H1 q1 h1 => hb _ s1 σ H1 _ _ h1 q1 fun b2 d2 s2 v2 H2 q2 h2 => hcc _ s2 σ H2 _ _ h2 q2 fun b3 d3 s3 v3 H3 q3 h3 =>
    ⟨v1, v2, v3, rfl, k.nx _ _ _ q3 (Rel.set (Rel.set (Rel.set (h3.perm ((List.Perm.swap ..).trans (((List.Perm.swap ..).cons _).trans (List.Perm.swap ..)))) i) j) l)⟩
/-- name op= e -/
@[reducible] def pAug (i : Nat) (rp : Dt → Dt → DQ → Prop) (tp : PTE) : PTS := fun P s => match pSl s i with
  | none => False
  | some _ => tp s fun _ y s1 => match pSl s1 i with
    | some x => rp x y fun b d => P.nx (s1.set i (mkS b d))
    | none => False
theorem cs_aug {i : Nat} (h : CE c t tp) (ho : OpZ r rp) : CS c (tAug i t r) (pAug i rp tp) := fun F s σ H D P hr hp k => by
  unfold pAug at hp
  split at hp
  · exact hp.elim
  · rename_i d hd
    obtain ⟨v, hv, _⟩ := hr.slot hd
    refine ⟨v, hv, h F s σ H _ _ hr hp fun b y s1 vy H1 q h1 => ?_⟩
    split at q
    · rename_i x hx
      obtain ⟨v', hv', hw⟩ := h1.slot hx
      rw [hv] at hv'; cases hv'
      have h2 := h1.mkfz
      refine ho c _ H1 v vy x y _ _ h2.2 ?_ (.inl (List.mem_append_right _ (List.mem_cons_self ..))) q fun b d v H' rd hl => k.nx _ _ _ rd ?_
      · rcases hw with z | z | ⟨C, u, z, hl⟩
        · exact .inl (List.mem_append_left _ z)
        · exact .inr (.inl (List.mem_append_left _ z))
        · exact .inr (.inr ⟨C, u, List.mem_append_left _ z, hl⟩)
      · exact (Rel.res (F2 := [_]) h2.1 hl).set i
    · exact q.elim
@[reducible] def pIfS (tt : PTT) (a b : PTS) : PTS := fun P s => tt s fun k s1 => if k = true then a P s1 else b P s1
theorem cs_if {tt : TT} {pt : PTT} (ht : CT c tt pt) (ha : CS c ts ps) (hb : CS c us pu) : CS c (tIfS tt ts us) (pIfS pt ps pu) := fun F s σ H D P h hp k =>
  ht F s σ H _ _ h hp fun b s1 H1 q h1 => by
    cases b with
    | true => exact ha F s1 σ H1 D P h1 (by simpa using q) k
    | false => exact hb F s1 σ H1 D P h1 (by simpa using q) k
theorem cs_cut0 (h : CS c ts ps) : CS c (tCutS ts) ps := fun F s σ H D P hr hp k => ⟨D.nx, h F s σ H D _ hr hp k, fun _ _ q => q⟩
@[reducible] def pRet (tp : PTE) : PTS := fun P s => tp s fun b d _ => P.rt b d
theorem cs_ret (h : CE c t tp) : CS c (tRet t) (pRet tp) := fun F s σ H D P hr hp k => h F s σ H _ _ hr hp fun b d s' v H' q hr' =>
  k.rt _ _ _ _ q (hr'.top.sub (by exact List.cons_sublist_cons.mpr (List.nil_sublist _)))
@[reducible] def pDrop (tp : PTE) : PTS := fun P s => tp s fun _ _ s' => P.nx s'
theorem cs_drop (h : CE c t tp) : CS c (tDrop t) (pDrop tp) := fun F s σ H D P hr hp k => h F s σ H _ _ hr hp fun b d s' v H' q hr' => k.nx _ _ _ q hr'.drop
theorem wipe_set (σ : L2.St) (k : Nat) (v : Option V) : ∀ vs : List Nat, k ∈ vs → wipe (σ.set k v) vs = wipe σ vs
  | [], h => absurd h (by simp)
  | w :: vs, h => by
    unfold wipe
    by_cases e : w = k
    · subst e
      have : ∀ vs : List Nat, (wipe (σ.set w v) vs).set w none = (wipe σ vs).set w none := by
        intro vs
        induction vs with
        | nil => show (σ.set w v).set w none = σ.set w none; rw [List.set_set]
        | cons u vs ih =>
          unfold wipe
          by_cases e : u = w
          · subst e; rw [List.set_set, List.set_set, ih]
          · rw [List.set_comm _ _ e, List.set_comm _ _ e, ih]
      exact this vs
    · rcases List.mem_cons.mp h with z | z
      · exact absurd z.symm e
      · rw [wipe_set σ k v vs z]
@[reducible] def pName (k : Nat) : PTG := fun d s Q => Q (s.set k (.fz d))
theorem cg_name {k : Nat} {vs : List Nat} (hk : k ∈ vs) : CG c vs (gName k) (pName k) := fun F s σ H d v Q R h hp kk => kk _ _ hp (h.set k) (wipe_set _ _ _ _ hk)
abbrev PTGs := List Dt → PSt → (PSt → Prop) → Prop
def CGs (c : Ctx) (vs : List Nat) (g : TGs) (gp : PTGs) : Prop := ∀ (F : List Pc) (s : PSt) (σ : L2.St) (H : Hp) (ds : List Dt) (ws : List V) (Q : L2.St → Hp → Prop) (R : PSt → Prop), ds.length = ws.length → Rel c s σ (fzs ds ws ++ F) H → gp ds s R → (∀ s' σ', R s' → Rel c s' σ' F H → wipe σ' vs = wipe σ vs → Q σ' H) → g ws σ H Q
@[reducible] def pGNil : PTGs := fun ds s Q => match ds with
  | [] => Q s
  | _ => False
@[reducible] def pGCons (g : PTG) (gs : PTGs) : PTGs := fun ds s Q => match ds with
  | d :: ds => g d s fun s' => gs ds s' Q
  | [] => False
theorem cgs_nil {vs : List Nat} : CGs c vs gNil pGNil := fun F s σ H ds ws Q R e h hp k => by
  cases ds with
  | nil =>
    obtain rfl : ws = [] := List.eq_nil_of_length_eq_zero e.symm
    exact ⟨rfl, k _ _ hp h rfl⟩
  | cons _ _ => exact hp.elim
theorem cgs_cons {vs : List Nat} {g : TG} {gs : TGs} {gp : PTG} {gps : PTGs} (h1 : CG c vs g gp) (h2 : CGs c vs gs gps) : CGs c vs (gCons g gs) (pGCons gp gps) := fun F s σ H ds ws Q R e h hp k => by
  cases ds with
  | nil => exact hp.elim
  | cons d ds =>
    cases ws with
    | nil => cases e
    | cons w ws =>
      refine ⟨w, ws, rfl, h1 (fzs ds ws ++ F) s σ H d w _ _ h hp fun s' σ' q h' ew => ?_⟩
      exact h2 F s' σ' H ds ws Q R (by simpa using e) h' q fun s2 σ2 q2 h3 ew2 => k _ _ q2 h3 (ew2.trans ew)
theorem Rel.fgt {ds : List Dt} {s : PSt} {σ : L2.St} {F : List Pc} {H : Hp} {v : V} (h : Rel c s σ ((.fz (.tpk ds), some v) :: F) H) : Rel c s σ ((.fz (.tup ds), some v) :: F) H := by
  obtain ⟨p, xs, o, e1, ha, g1, _, g2⟩ := h.top.ok (.fz (.tpk ds), some v) (List.mem_cons_self ..)
  refine .of_top h.1 (RelL.fr h.drop.2 ⟨p, xs, e1, ?_, .inr ⟨o, g1⟩, ?_⟩)
  · exact ha
  · exact g2.mono fun a o ha ho => ⟨ha, ho⟩
@[reducible] def pGTup (n : Nat) (g : PTGs) : PTG := fun d s Q => match d with
  | .tup ds => ds.length = n ∧ g ds s Q
  | .tpk ds => ds.length = n ∧ g ds s Q
  | _ => False
theorem cg_tup0 {vs : List Nat} {n : Nat} {g : TGs} {gp : PTGs} (h : CGs c vs g gp) {F : List Pc} {s : PSt} {σ : L2.St} {H : Hp} {ds : List Dt} {v : V} {Q : L2.St → Hp → Prop} {R : PSt → Prop} (hr : Rel c s σ ((.fz (.tup ds), some v) :: F) H) (hn : ds.length = n) (hp : gp ds s R)
    (k : ∀ s' σ', R s' → Rel c s' σ' F H → L2.wipe σ' vs = L2.wipe σ vs → Q σ' H) : gTup K n g v σ H Q := by
    obtain ⟨a, xs, rfl, ha, h1, h2⟩ := hr.top.ok _ (List.mem_cons_self ..)
    refine ⟨a, xs, rfl, .inl h1, by rw [h2.length]; exact hn, h F s σ H ds xs Q R h2.length.symm ?_ hp k⟩
    have key : ∀ (ds : List Dt) (xs : List V), FrAll (Al c (s.zip σ ++ F)) H ds xs → Rel c s σ F H → Rel c s σ (fzs ds xs ++ F) H := by
      intro ds
      induction ds with
      | nil => intro xs r h; cases r; exact h
      | cons d ds ih =>
        intro xs r h
        obtain ⟨v, ws, rfl, r1, r2⟩ := r
        have h3 := ih ws r2 h
        refine .of_top h3.1 (h3.2.fr ?_)
        have eo : owns (s.zip σ ++ (fzs ds ws ++ F)) = owns (s.zip σ ++ F) := by
          rw [owns_app (s.zip σ), owns_app (s.zip σ), owns_fzs]
        have : Al c (s.zip σ ++ (fzs ds ws ++ F)) = Al c (s.zip σ ++ F) := by funext a; unfold Al; rw [eo]
        rw [this]; exact r1
    refine key ds xs ?_ hr.drop
    refine h2.mono fun a o ha ho => ⟨ha, ho⟩
theorem cg_tup {vs : List Nat} {n : Nat} {g : TGs} {gp : PTGs} (h : CGs c vs g gp) : CG c vs (gTup K n g) (pGTup n gp) := fun F s σ H d v Q R hr hp k => by
  unfold pGTup at hp
  split at hp
  · exact cg_tup0 h hr hp.1 hp.2 k
  · exact cg_tup0 h hr.fgt hp.1 hp.2 k
  · exact hp.elim
structure ItZ (c : Ctx) (J : It) (items : List Dt) (F' : List Pc) : Prop where
  ex : ∃ (n : Nat) (G : Hp → Prop) (Y : Nat → Hp → V → Hp → Prop), Walk J n G Y ∧ n = items.length ∧ (∀ s σ F H, Rel c s σ (F' ++ F) H → G H) ∧
    ∀ i H v H2 s σ F d, items[i]? = some d → Rel c s σ (F' ++ F) H → Y i H v H2 → Rel c s σ ((.fz d, some v) :: (F' ++ F)) H2
def CI (c : Ctx) (wi : TI) (ip : PTI) : Prop := ∀ (F : List Pc) (s : PSt) (σ : L2.St) (H : Hp) (Q : It → Hp → Prop) (R : List Dt → PSt → Prop), Rel c s σ F H → ip s R → (∀ items s' J H' F', R items s' → Rel c s' σ (F' ++ F) H' → ItZ c J items F' → Q J H') → wi σ H Q
theorem itZ_text (l : List Nat) (F' : List Pc) : ItZ c (Itx l) (l.map fun ch => .str [ch]) F' :=
  ⟨_, _, _, walk_tx, by simp, fun _ _ _ _ _ => trivial, fun i H v H2 s σ F d hd h ⟨e, ch, hc, ev⟩ => by
    subst e ev
    rw [List.getElem?_map, hc] at hd
    cases hd
    exact .of_top h.1 (h.2.str _)⟩
theorem itZ_list {a : Addr} {ds : List Dt} : ItZ c (Itl K a) ds [(.fz (.lst ds), some (.ref a))] := by
  refine ⟨ds.length, fun H => ∃ xs, SqL K H a xs ∧ xs.length = ds.length, fun i H v H' => H' = H ∧ ∀ xs, SqL K H a xs → xs[i]? = some v, ?_, rfl, ?_, ?_⟩
  · exact ⟨fun i _ hi ⟨xs, q, e⟩ => ⟨xs, xs[i]'(by omega), q, by simp [e ▸ hi]⟩, fun _ ⟨xs, q, e⟩ => ⟨xs, q, by omega⟩, fun _ _ _ _ _ _ y => y⟩
  · intro s σ F H h
    obtain ⟨a', xs, e, _, h1, h2⟩ := h.2.ok (.fz (.lst ds), some (.ref a)) (List.mem_append_right _ (List.mem_cons_self ..))
    cases e
    exact ⟨xs, SqL.of h1, h2.length⟩
  · intro i H v H2 s σ F d hd h ⟨e, y⟩
    subst e
    obtain ⟨a', xs, e, _, h1, h2⟩ := h.2.ok (.fz (.lst ds), some (.ref a)) (List.mem_append_right _ (List.mem_cons_self ..))
    cases e
    obtain ⟨w, hw, r⟩ := h2.get hd
    have := y xs (SqL.of h1)
    rw [hw] at this
    cases this
    exact .of_top h.1 (h.2.fr r)
theorem itZ_tup {a : Addr} {ds : List Dt} : ItZ c (Itt K a) ds [(.fz (.tup ds), some (.ref a))] := by
  refine ⟨ds.length, fun H => ∃ xs, SqT K H a xs ∧ xs.length = ds.length, fun i H v H' => H' = H ∧ ∀ xs, SqT K H a xs → xs[i]? = some v, ?_, rfl, ?_, ?_⟩
  · exact ⟨fun i _ hi ⟨xs, q, e⟩ => ⟨xs, xs[i]'(by omega), q, by simp [e ▸ hi]⟩, fun _ ⟨xs, q, e⟩ => ⟨xs, q, by omega⟩, fun _ _ _ _ _ _ y => y⟩
  · intro s σ F H h
    obtain ⟨a', xs, e, _, h1, h2⟩ := h.2.ok (.fz (.tup ds), some (.ref a)) (List.mem_append_right _ (List.mem_cons_self ..))
    cases e
    exact ⟨xs, .inl h1, h2.length⟩
  · intro i H v H2 s σ F d hd h ⟨e, y⟩
    subst e
    obtain ⟨a', xs, e, _, h1, h2⟩ := h.2.ok (.fz (.tup ds), some (.ref a)) (List.mem_append_right _ (List.mem_cons_self ..))
    cases e
    obtain ⟨w, hw, r⟩ := h2.get hd
    have := y xs (.inl h1)
    rw [hw] at this
    cases this
    exact .of_top h.1 (h.2.fr r)
@[reducible] def pAny (tp : PTE) : PTI := fun s R => tp s fun _ d s' => match d with
  | .str l => R (l.map fun ch => .str [ch]) s'
  | .lst ds => R ds s'
  | .tup ds => R ds s'
  | .tpk ds => R ds s'
  | _ => False
theorem ci_any (h : CE c t tp) : CI c (iAny K t) (pAny tp) := fun F s σ H Q R hr hp k => h F s σ H _ _ hr hp fun b d s' v H' q hr' => by
  split at q
  · rename_i l
    exact .inl ⟨l, str_of hr', k _ _ _ _ [] q hr'.drop (itZ_text _ _)⟩
  · obtain ⟨a, xs, rfl, _, h1, h2⟩ := hr'.mkfz.top.ok _ (List.mem_cons_self ..)
    exact .inr (.inr ⟨a, xs, rfl, SqL.of h1, k _ _ _ _ [_] q hr'.mkfz itZ_list⟩)
  · obtain ⟨a, xs, rfl, _, h1, h2⟩ := hr'.mkfz.top.ok _ (List.mem_cons_self ..)
    exact .inr (.inl ⟨a, xs, rfl, .inl h1, k _ _ _ _ [_] q hr'.mkfz itZ_tup⟩)
  · have hr2 := hr'.mkfz.fgt
    obtain ⟨a, xs, rfl, _, h1, h2⟩ := hr2.top.ok _ (List.mem_cons_self ..)
    exact .inr (.inl ⟨a, xs, rfl, .inl h1, k _ _ _ _ [_] q hr2 itZ_tup⟩)
  · exact q.elim
theorem itZ_range {lo : Int} {n : Nat} (F' : List Pc) : ItZ c (Itr lo n) ((List.range n).map fun i : Nat => .int (lo + (i : Int))) F' :=
  ⟨_, _, _, walk_range, by simp, fun _ _ _ _ _ => trivial, fun i H v H2 s σ F d hd h ⟨e, ev⟩ => by
    subst e ev
    rw [List.getElem?_map] at hd
    cases hq : (List.range n)[i]? with
    | none => rw [hq] at hd; cases hd
    | some j =>
      rw [hq] at hd
      cases hd
      have : j = i := by
        rw [List.getElem?_range] at hq
        · cases hq; rfl
        · have := (List.getElem?_eq_some_iff.mp hq).1
          simpa using this
      subst this
      exact .of_top h.1 (h.2.int _)⟩
@[reducible] def pRng1 (tp : PTE) : PTI := fun s R => tp s fun _ d s' => match d with
  | .int j => (-(2 ^ 62) ≤ j ∧ j < 2 ^ 62) ∧ R ((List.range j.toNat).map fun i : Nat => .int (i : Int)) s'
  | _ => False
theorem ci_rng1 (h : CE c t tp) : CI c (iRng1 (tCons t tNil)) (pRng1 tp) := fun F s σ H Q R hr hp k => h F s σ H _ _ hr hp fun b d s' v H' q hr' => by
  split at q
  · rename_i j
    obtain rfl := int_of hr'
    refine ⟨j, rfl, q.1.1, q.1.2, k _ _ _ _ [] q.2 hr'.drop ?_⟩
    have := itZ_range (c := c) (lo := 0) (n := j.toNat) []
    simpa using this
  · exact q.elim
@[reducible] def pRng2 (pa pb : PTE) : PTI := fun s R => pa s fun _ d s1 => pb s1 fun _ e s2 => match d, e with
  | .int i, .int j => (-(2 ^ 62) ≤ i ∧ i < 2 ^ 62 ∧ -(2 ^ 62) ≤ j ∧ j < 2 ^ 62) ∧ R ((List.range (j - i).toNat).map fun k : Nat => .int (i + (k : Int))) s2
  | _, _ => False
theorem ci_rng2 (ha : CE c ta pa) (hb : CE c tb pb) : CI c (iRng2 (tCons ta (tCons tb tNil))) (pRng2 pa pb) := fun F s σ H Q R hr hp k => ha F s σ H _ _ hr hp fun b1 d1 s1 v1 H1 q1 h1 => hb _ s1 σ H1 _ _ h1 q1 fun b2 d2 s2 v2 H2 q2 h2 => by
  split at q2
  · rename_i i j
    obtain rfl := int_of h2
    obtain rfl := int_of h2.drop
    exact ⟨i, j, rfl, q2.1, k _ _ _ _ [] q2.2 h2.drop.drop (itZ_range _)⟩
  · exact q2.elim
/-- pairs laid anew -/
theorem itZ_new {J : It} {n : Nat} {G : Hp → Prop} {W : Nat → List V → Prop} {items : List Dt} {F' : List Pc} (w : Walk J n G (YNew W)) (hn : n = items.length) (hG : ∀ s σ F H, Rel c s σ (F' ++ F) H → G H)
    (hW : ∀ i vs s σ F H d, items[i]? = some d → Rel c s σ (F' ++ F) H → W i vs → ∃ ds, d = .tup ds ∧ FrAll (Al c (s.zip σ ++ (F' ++ F))) H ds vs) : ItZ c J items F' :=
  ⟨n, G, _, w, hn, hG, fun i H v H2 s σ F d hd h ⟨T, vs, ev, hT, e, h2, r⟩ => by
    obtain ⟨ds, rfl, f⟩ := hW i vs s σ F H d hd h r
    subst ev
    exact .of_top h.1 (h.2.newT f hT e h2)⟩
def enumD (ds : List Dt) : List Dt := (List.range ds.length).map fun i : Nat => .tup [.int (i : Int), ds.getD i .non]
theorem enumD_get {ds : List Dt} {i : Nat} {d : Dt} (h : (enumD ds)[i]? = some d) : ∃ e, ds[i]? = some e ∧ d = .tup [.int (i : Int), e] := by
  unfold enumD at h
  rw [List.getElem?_map] at h
  by_cases hi : i < ds.length
  · rw [List.getElem?_range hi] at h
    cases h
    exact ⟨ds[i], by simp [hi], by simp [List.getD_eq_getElem?_getD, hi]⟩
  · rw [List.getElem?_eq_none (by simp; omega)] at h; cases h
def signsD (l : List Nat) : List Dt := l.map fun ch => .str [ch]
theorem signsD_get {l : List Nat} {i : Nat} {d : Dt} (h : (signsD l)[i]? = some d) : ∃ ch, l[i]? = some ch ∧ d = .str [ch] := by
  unfold signsD at h
  rw [List.getElem?_map] at h
  cases hl : l[i]? with
  | none => rw [hl] at h; cases h
  | some ch => rw [hl] at h; cases h; exact ⟨ch, rfl, rfl⟩
theorem itZ_enumX (l : List Nat) (F' : List Pc) : ItZ c (Itex l) (enumD (signsD l)) F' :=
  itZ_new walk_w (by simp [enumD, signsD]) (fun _ _ _ _ _ => trivial) fun i vs s σ F H d hd h ⟨ch, hc, e⟩ => by
    obtain ⟨e1, h1, rfl⟩ := enumD_get hd
    obtain ⟨ch', h2, rfl⟩ := signsD_get h1
    rw [hc] at h2; cases h2
    subst e
    exact ⟨_, rfl, .cons rfl (.cons rfl .nil)⟩
theorem itZ_enumL {a : Addr} {ds : List Dt} : ItZ c (Ite K a) (enumD ds) [(.fz (.lst ds), some (.ref a))] := by
  refine ⟨ds.length, fun H => ∃ xs, SqL K H a xs ∧ xs.length = ds.length, _, ⟨fun i _ hi ⟨xs, q, e⟩ => ⟨xs, xs[i]'(by omega), q, by simp [e ▸ hi]⟩, fun _ ⟨xs, q, e⟩ => ⟨xs, q, by omega⟩, fun _ _ _ _ _ _ y => y⟩, by simp [enumD], ?_, ?_⟩
  · intro s σ F H h
    obtain ⟨a', xs, e, _, h1, h2⟩ := h.2.ok (.fz (.lst ds), some (.ref a)) (List.mem_append_right _ (List.mem_cons_self ..))
    cases e
    exact ⟨xs, SqL.of h1, h2.length⟩
  · intro i H v H2 s σ F d hd h ⟨T, x, ev, hT, e, y⟩
    obtain ⟨e1, he1, rfl⟩ := enumD_get hd
    obtain ⟨a', xs, e', _, h1, h2⟩ := h.2.ok (.fz (.lst ds), some (.ref a)) (List.mem_append_right _ (List.mem_cons_self ..))
    cases e'
    obtain ⟨w, hw, r⟩ := h2.get he1
    have := y xs (SqL.of h1)
    rw [hw] at this
    cases this
    subst ev e
    exact .of_top h.1 (h.2.newT (ds := [.int (i : Int), e1]) (.cons (d := .int (i : Int)) rfl (.cons r .nil)) hT (Ex.new hT) upd_same)
@[reducible] def pEnumX (tp : PTE) : PTI := fun s R => tp s fun _ d s' => match d with
  | .str l => R (enumD (signsD l)) s'
  | _ => False
theorem ci_enumX (h : CE c t tp) : CI c (iEnumX (tCons t tNil)) (pEnumX tp) := fun F s σ H Q R hr hp k => h F s σ H _ _ hr hp fun b d s' v H' q hr' => by
  split at q
  · rename_i l
    obtain rfl := str_of hr'
    exact ⟨l, rfl, k _ _ _ _ [] q hr'.drop (itZ_enumX _ _)⟩
  · exact q.elim
@[reducible] def pEnumL (tp : PTE) : PTI := fun s R => tp s fun _ d s' => match d with
  | .lst ds => R (enumD ds) s'
  | _ => False
theorem ci_enumL (h : CE c t tp) : CI c (iEnum K (tCons t tNil)) (pEnumL tp) := fun F s σ H Q R hr hp k => h F s σ H _ _ hr hp fun b d s' v H' q hr' => by
  split at q
  · obtain ⟨a, xs, rfl, _, h1, h2⟩ := hr'.mkfz.top.ok _ (List.mem_cons_self ..)
    exact ⟨a, xs, rfl, SqL.of h1, k _ _ _ _ [_] q hr'.mkfz itZ_enumL⟩
  · exact q.elim
def zipD (ds es : List Dt) : List Dt := List.zipWith (fun d e => .tup [d, e]) ds es
theorem zipD_get {ds es : List Dt} {i : Nat} {d : Dt} (h : (zipD ds es)[i]? = some d) : ∃ a b, ds[i]? = some a ∧ es[i]? = some b ∧ d = .tup [a, b] := by
  unfold zipD at h
  rw [List.getElem?_zipWith] at h
  split at h
  · rename_i a b h1 h2
    cases h
    exact ⟨a, b, h1, h2, rfl⟩
  · cases h
theorem itZ_zipL {a b : Addr} {ds es : List Dt} : ItZ c (Itz K a b) (zipD ds es) [(.fz (.lst ds), some (.ref a)), (.fz (.lst es), some (.ref b))] := by
  refine ⟨min ds.length es.length, fun H => ∃ xs ys, SqL K H a xs ∧ SqL K H b ys ∧ xs.length = ds.length ∧ ys.length = es.length, _, ⟨fun i _ hi ⟨xs, ys, q, q', e, e'⟩ => ⟨xs, ys, xs[i]'(by omega), ys[i]'(by omega), q, q', by simp, by simp⟩, fun _ ⟨xs, ys, q, q', e, e'⟩ => ⟨xs, ys, q, q', by omega⟩, fun _ _ _ _ _ _ y => y⟩, by simp [zipD], ?_, ?_⟩
  · intro s σ F H h
    obtain ⟨a', xs, e, _, h1, h2⟩ := h.2.ok (.fz (.lst ds), some (.ref a)) (List.mem_append_right _ (by simp))
    obtain ⟨b', ys, e', _, h1', h2'⟩ := h.2.ok (.fz (.lst es), some (.ref b)) (List.mem_append_right _ (by simp))
    cases e
    cases e'
    exact ⟨xs, ys, SqL.of h1, SqL.of h1', h2.length, h2'.length⟩
  · intro i H v H2 s σ F d hd h ⟨T, x, y, ev, hT, e, y1, y2⟩
    obtain ⟨e1, e2, he1, he2, rfl⟩ := zipD_get hd
    obtain ⟨a', xs, e', _, h1, h2⟩ := h.2.ok (.fz (.lst ds), some (.ref a)) (List.mem_append_right _ (by simp))
    cases e'
    obtain ⟨b', ys, e', _, h1', h2'⟩ := h.2.ok (.fz (.lst es), some (.ref b)) (List.mem_append_right _ (by simp))
    cases e'
    obtain ⟨w, hw, r⟩ := h2.get he1
    obtain ⟨w', hw', r'⟩ := h2'.get he2
    have q1 := y1 xs (SqL.of h1)
    have q2 := y2 ys (SqL.of h1')
    rw [hw] at q1
    cases q1
    rw [hw'] at q2
    cases q2
    subst ev e
    exact .of_top h.1 (h.2.newT (.cons r (.cons r' .nil)) hT (Ex.new hT) upd_same)
@[reducible] def pZipL (pa pb : PTE) : PTI := fun s R => pa s fun _ d s1 => pb s1 fun _ e s2 => match d, e with
  | .lst l, .lst m => R (zipD l m) s2
  | _, _ => False
theorem ci_zipL (ha : CE c ta pa) (hb : CE c tb pb) : CI c (iZip K (tCons ta (tCons tb tNil))) (pZipL pa pb) := fun F s σ H Q R hr hp k => ha F s σ H _ _ hr hp fun b1 d1 s1 v1 H1 q1 h1 => hb _ s1 σ H1 _ _ h1.mkfz q1 fun b2 d2 s2 v2 H2 q2 h2 => by
  split at q2
  · obtain ⟨a, xs, rfl, _, g1, g2⟩ := h2.mkfz.2.ok _ (List.mem_append_right _ (List.mem_cons_of_mem _ (List.mem_cons_self ..)))
    obtain ⟨b, ys, rfl, _, g1', g2'⟩ := h2.mkfz.top.ok _ (List.mem_cons_self ..)
    exact ⟨a, b, xs, ys, rfl, SqL.of g1, SqL.of g1', k _ _ _ _ [_, _] q2 (h2.mkfz.perm (List.Perm.swap ..)) itZ_zipL⟩
  · exact q2.elim
def pFor (ip : PTI) (gp : PTG) (tb : PTS) : PTS := fun P s => ip s fun items s1 => ∃ I : Nat → PSt → Prop, I 0 s1 ∧
  (∀ i d s2, items[i]? = some d → I i s2 → gp d s2 fun s3 => tb { P with nx := I (i + 1), ct := I (i + 1), bk := P.nx } s3) ∧ ∀ s2, I items.length s2 → P.nx s2
theorem cs_for {wi : TI} {ip : PTI} {g : TG} {gp : PTG} {vs : List Nat} (hi : CI c wi ip) (hg : CG c vs g gp) (hb : CS c ts ps) : CS c (tFor wi g ts) (pFor ip gp ps) := fun F s σ H D P h hp k =>
  hi F s σ H _ _ h hp fun items s1 J H1 F' ⟨I, i0, is, ie⟩ h1 z => by
    obtain ⟨n, G, Y, w, hn, hG, hY⟩ := z.ex
    refine for_it w (fun i σ H => ∃ s, Rel c s σ (F' ++ F) H ∧ I i s) ⟨s1, h1, i0⟩ (fun i σ H _ ⟨s, hs, _⟩ => hG _ _ _ _ hs) ?_ ?_
    · rintro i x σ2 H2 H3 hi ⟨s2, h2, i2⟩ y
      obtain ⟨d, hd⟩ : ∃ d, items[i]? = some d := ⟨items[i]'(by omega), by simp⟩
      have h3 := hY i H2 x H3 s2 σ2 F d hd h2 y
      refine hg _ s2 σ2 H3 d x _ _ h3 (is i d s2 hd i2) fun s4 σ4 q4 h4 _ => ?_
      refine hb _ s4 σ4 H3 _ _ h4 q4 ⟨fun s5 σ5 H5 q5 h5 => ⟨s5, h5, q5⟩, fun b d v H q h => k.rt _ _ _ _ q h, fun s5 σ5 H5 q5 h5 => k.nx _ _ _ q5 (h5.sub (List.sublist_append_right _ _)), fun s5 σ5 H5 q5 h5 => ⟨s5, h5, q5⟩, k.rs' F'⟩
    · rintro σ2 H2 ⟨s2, h2, i2⟩
      exact k.nx _ _ _ (ie s2 (hn ▸ i2)) (h2.sub (List.sublist_append_right _ _))
def frzS (s : PSt) : List Nat → PSt
  | [] => s
  | k :: ks => frzS (match s[k]? with
    | some (.ow d) => s.set k (.fz d)
    | _ => s) ks
theorem Rel.frzS {σ : L2.St} {F : List Pc} {H : Hp} : ∀ {ks : List Nat} {s : PSt}, Rel c s σ F H → Rel c (frzS s ks) σ F H
  | [], _, h => h
  | k :: ks, s, h => by
    unfold Lt.frzS
    refine Rel.frzS (ks := ks) ?_
    split
    · exact h.frz (by assumption)
    · exact h
def pLc (ks : List Nat) (ip : PTI) (gp : PTG) (tt : PTT) (te : PTE) (vs : List Nat) : PTE := fun s Q => ip (frzS s ks) fun items s1 => items.length ≤ 16000000 ∧ ∃ G : Nat → List Dt → Prop, G 0 [] ∧
  (∀ i d acc, items[i]? = some d → G i acc → gp d (wipeS s1 vs) fun s2 => tt s2 fun b s3 => if b = true then te s3 fun _ e s4 => wipeS s4 vs = wipeS s1 vs ∧ G (i + 1) (acc ++ [e]) else wipeS s3 vs = wipeS s1 vs ∧ G (i + 1) acc) ∧
  ∀ acc, G items.length acc → acc.length ≤ items.length → Q true (.lst acc) (wipeS s1 vs)
theorem ce_lc {wi : TI} {ip : PTI} {g : TG} {gp : PTG} {tt : TT} {pt : PTT} {vs ks : List Nat} (hi : CI c wi ip) (hg : CG c vs g gp) (ht : CT c tt pt) (he : CE c t tp) : CE c (tLc wi g tt t vs) (pLc ks ip gp pt tp vs) := fun F s σ H Q R h hp k =>
  hi F (frzS s ks) σ H _ _ h.frzS hp fun items s1 J H1 F' ⟨hz, G, g0, gs, ge⟩ h1 z => by
    obtain ⟨n, Gh, Y, w, hn, hG, hY⟩ := z.ex
    intro D hD
    have h1w : ∀ {s2 : PSt} {σ2 : L2.St} {F2 : List Pc} {H2 : Hp}, Rel c s2 σ2 F2 H2 → wipe σ2 vs = wipe σ vs → wipeS s2 vs = wipeS s1 vs → Rel c (wipeS s1 vs) σ F2 H2 := fun h e es => by
      have := Rel.unwipe (s := s1) h e es
      exact this
    have hb : Rel c (wipeS s1 vs) σ (F' ++ F) H1 := h1w h1 rfl rfl
    refine lc_it w (fun i H' => ∃ acc : List Dt, G i acc ∧ acc.length ≤ i ∧ Rel c (wipeS s1 vs) σ ((.ow (.lst acc), some (.ref D)) :: (F' ++ F)) H') ?_ ?_ ?_ ?_
    · exact ⟨[], g0, Nat.le_refl _, .of_top hb.1 (hb.2.newL (ds := []) (xs := []) rfl hD (Ex.new hD) upd_same)⟩
    · rintro i H' _ ⟨acc, _, _, h'⟩
      exact hG _ _ _ _ h'.drop
    · rintro i x H2 H3 hi ⟨acc, ga, hl, h2⟩ y
      obtain ⟨d, hd⟩ : ∃ d, items[i]? = some d := ⟨items[i]'(by omega), by simp⟩
      have h2' : Rel c (wipeS s1 vs) σ (F' ++ ((.ow (.lst acc), some (.ref D)) :: F)) H2 := h2.perm List.perm_middle.symm
      have h3 := hY i H2 x H3 _ _ _ d hd h2' y
      have h3w := Rel.wipe h3 vs
      have eww : ∀ (s : PSt) (vs : List Nat), wipeS (wipeS s vs) vs = wipeS s vs := by
        intro s vs
        refine List.ext_getElem? fun j => ?_
        have key : ∀ (s : PSt) (vs : List Nat), j ∉ vs → (wipeS s vs)[j]? = s[j]? := by
          intro s vs
          induction vs with
          | nil => intro _; rfl
          | cons v vs ih =>
            intro hj
            unfold wipeS
            rw [List.getElem?_set_ne (fun e => hj (by rw [e]; exact List.mem_cons_self ..))]
            exact ih fun z => hj (List.mem_cons_of_mem _ z)
        by_cases hj : j ∈ vs
        · by_cases hs : j < s.length
          · rw [wipe_un _ vs j hj (by rw [wipeS_length]; exact hs), wipe_un _ vs j hj hs]
          · rw [List.getElem?_eq_none (by rw [wipeS_length, wipeS_length]; omega), List.getElem?_eq_none (by rw [wipeS_length]; omega)]
        · rw [key _ _ hj]
      have eww' : ∀ (s : L2.St) (vs : List Nat), wipe (wipe s vs) vs = wipe s vs := by
        intro s vs
        refine List.ext_getElem? fun j => ?_
        have key2 : ∀ (s : L2.St) (vs : List Nat), j ∈ vs → j < s.length → (wipe s vs)[j]? = some none := by
          intro s vs
          induction vs with
          | nil => intro h; simp at h
          | cons v vs ih =>
            intro hj hs
            unfold wipe
            by_cases e : v = j
            · subst e
              rw [List.getElem?_set_self (by rw [wipe_length]; exact hs)]
            · rw [List.getElem?_set_ne e]
              rcases List.mem_cons.mp hj with z | z
              · exact absurd z.symm e
              · exact ih z hs
        by_cases hj : j ∈ vs
        · by_cases hs : j < s.length
          · rw [key2 _ vs hj (by rw [wipe_length]; exact hs), key2 _ vs hj hs]
          · rw [List.getElem?_eq_none (by rw [wipe_length, wipe_length]; omega), List.getElem?_eq_none (by rw [wipe_length]; omega)]
        · rw [wipe_out _ hj]
      rw [eww] at h3w
      refine hg _ (wipeS s1 vs) (wipe σ vs) H3 d x _ _ h3w (gs i d acc hd ga) fun s4 σ4 q4 h4 ew => ?_
      rw [eww'] at ew
      refine ⟨ew, ht _ s4 σ4 H3 _ _ h4 q4 fun b s5 H5 q5 h5 => ?_⟩
      cases b with
      | true =>
        simp only [if_true] at q5 ⊢
        refine he _ s5 σ4 H5 _ _ h5 q5 fun b e s6 v6 H6 ⟨ews, ge6⟩ h6 => ?_
        have h7 := h1w h6.mkfz ew ews
        have h8 : Rel c (wipeS s1 vs) σ ((.ow (.lst acc), some (.ref D)) :: (.fz e, some v6) :: (F' ++ F)) H6 := h7.perm ((List.perm_middle (l₁ := _ :: F')).trans (.refl _))
        obtain ⟨p, ep, _, xs, hx1, hx2⟩ := h8.top.own_at
        cases ep
        refine ⟨xs, hx1, by rw [hx2.length, sizeLine_eq]; omega, acc ++ [e], ge6, by simp; omega, ?_⟩
        have hm := h8.top.mut (H' := upd H6 D (.lst (xs ++ [v6]))) (d' := .lst (acc ++ [e])) ExB.upd ?_
        · exact (Rel.of_top h8.1 hm).sub (.cons_cons _ (List.sublist_cons_self _ _))
        · refine ⟨_, upd_same, ?_⟩
          have hne : ∀ a o, Al c ((.ow (.lst acc), some (.ref D)) :: ((wipeS s1 vs).zip σ ++ ((.fz e, some v6) :: (F' ++ F)))) a → H6 a = some o → Al c ((.ow (.lst acc), some (.ref D)) :: ((wipeS s1 vs).zip σ ++ ((.fz e, some v6) :: (F' ++ F)))) a ∧ upd H6 D (.lst (xs ++ [v6])) a = some o := fun a o ha ho => ⟨ha, by
            rw [upd_ne (fun z => ha.2 (by rw [z]; exact List.mem_cons_self ..))]; exact ho⟩
          refine (hx2.append (.cons ?_ .nil)).mono hne
          exact h8.top.ok _ (List.mem_cons_of_mem _ (List.mem_append_right _ (List.mem_cons_self ..)))
      | false =>
        simp only [Bool.false_eq_true, if_false] at q5 ⊢
        have h7 := h1w h5 ew q5.1
        exact ⟨acc, q5.2, by omega, h7.perm List.perm_middle⟩
    · rintro H2 ⟨acc, ga, hl, h2⟩
      exact k _ _ _ _ _ (ge acc (hn ▸ ga) (by omega)) (h2.sub (.cons_cons _ (List.sublist_append_right _ _)))
/-- the owned list at a slot is changed -/
theorem Rel.change {s : PSt} {σ : L2.St} {F : List Pc} {H H' : Hp} {k : Nat} {d d' : Dt} {p : Addr} (h : Rel c s σ F H) (hs : s[k]? = some (.ow d)) (hσ : σ[k]? = some (some (.ref p))) (e : ExB p H H') (r : At (Al c (s.zip σ ++ F)) H' d' p) : Rel c (s.set k (.ow d')) σ F H' := by
  obtain ⟨b, hb, hz⟩ := zip_get h.1 hs
  rw [hσ] at hb
  cases hb
  have ho := h.out hz
  refine .back h.1 hσ (ho.mut e (r.mono (fun a o ha ho' => ⟨?_, ho'⟩) fun _ q => q))
  have ep : (owns (s.zip σ ++ F)).Perm (owns ((.ow d, some (.ref p)) :: ((s.zip σ).take k ++ (s.zip σ).drop (k + 1) ++ F))) := by
    refine List.Perm.flatMap_right _ ?_
    conv => lhs; rw [split_at hz]
    rw [List.append_assoc]
    refine List.perm_middle.trans (.cons _ ?_)
    simp
  exact ⟨ha.1, fun z => ha.2 (ep.mem_iff.mpr z)⟩
theorem Rel.own {s : PSt} {σ : L2.St} {F : List Pc} {H : Hp} {k : Nat} {d : Dt} (h : Rel c s σ F H) (hs : s[k]? = some (.ow d)) : ∃ p, σ[k]? = some (some (.ref p)) ∧ At (Al c (s.zip σ ++ F)) H d p ∧ p ∈ owns (s.zip σ ++ F) := by
  obtain ⟨b, hb, hm⟩ := mem_zip h.1 hs
  have hm' : (Sl.ow d, b) ∈ s.zip σ ++ F := List.mem_append_left _ hm
  have := h.2.ok _ hm'
  cases b with
  | none => exact this.elim
  | some v =>
    cases v <;> try exact this.elim
    exact ⟨_, hb, this.2, mem_owns hm' (List.mem_singleton.mpr rfl)⟩
theorem FrAll.exb {L : List Pc} {H H' : Hp} {p : Addr} {ds : List Dt} {xs : List V} (e : ExB p H H') (hp : p ∈ owns L) (h : FrAll (Al c L) H ds xs) : FrAll (Al c L) H' ds xs := h.mono fun a o ha ho => ⟨ha, e _ _ (fun z => ha.2 (by rw [z]; exact hp)) ho⟩
/-- x.append(e) -/
@[reducible] def pApp (k : Nat) (tp : PTE) : PTE := fun s Q => match s[k]? with
  | some (.ow (.lst _)) => tp s fun _ d s1 => match s1[k]? with
    | some (.ow (.lst ds)) => ds.length < 16777216 ∧ Q false .non (s1.set k (.ow (.lst (ds ++ [d]))))
    | _ => False
  | _ => False
theorem Rel.non {s : PSt} {σ : L2.St} {F : List Pc} {H : Hp} (h : Rel c s σ F H) : Rel c s σ ((mkS false .non, some .non) :: F) H := .of_top h.1 (h.2.scal fun _ _ => rfl)
theorem ce_app {k : Nat} (h : CE c t tp) : CE c (tBM K "list" rAppend (tVar k) (tCons t tNil)) (pApp k tp) := fun F s σ H Q R hr hp kk => by
  unfold pApp at hp
  split at hp
  · rename_i ds0 hs
    obtain ⟨p, hσ, ⟨xs0, hx, _⟩, _⟩ := hr.own hs
    refine ⟨_, hσ, ty_lst hx, h F s σ H _ _ hr hp fun b d s1 v H1 q h1 => ?_⟩
    split at q
    · rename_i ds hs1
      have h2 := h1.mkfz
      obtain ⟨p', hσ', ⟨xs, hx1, hx2⟩, ho⟩ := h2.own hs1
      rw [hσ] at hσ'
      cases hσ'
      have hv := h2.top.ok _ (List.mem_cons_self ..)
      refine ⟨p, xs, v, rfl, rfl, hx1, by rw [hx2.length, sizeLine_eq]; exact q.1, kk _ _ _ _ _ q.2 (Rel.non ?_)⟩
      refine (h2.change (d' := .lst (ds ++ [d])) (H' := upd H1 p (.lst (xs ++ [v]))) hs1 hσ ExB.upd ⟨_, upd_same, FrAll.exb ExB.upd ho (hx2.append (.cons ?_ .nil))⟩).drop
      exact h2.2.ok _ (List.mem_append_right _ (List.mem_cons_self ..))
    · exact q.elim
  · exact hp.elim
theorem FrAll.dropLast {A : Addr → Prop} {H : Hp} {ds : List Dt} {xs : List V} (h : FrAll A H ds xs) : FrAll A H ds.dropLast xs.dropLast := by
  rw [List.dropLast_eq_take, List.dropLast_eq_take, h.length]
  exact h.take _
end
def pStart (ds : List Dt) (n : Nat) : PSt := ds.map .fz ++ List.replicate n .un
theorem start_rel {A Zd : Addr → Prop} {H : Hp} {ds : List Dt} {vs : List V} {n : Nat} (h : FrAll A H ds vs) (hi : Iv (baseCtx A Zd H) H) : Rel (baseCtx A Zd H) (pStart ds n) (vs.map some ++ List.replicate n none) [] H := by
  refine ⟨by simp [pStart, h.length], ?_⟩
  have e0 : owns (List.zip (pStart ds n) (vs.map some ++ List.replicate n none) ++ []) = [] := by
    unfold owns
    rw [List.append_nil, List.flatMap_eq_nil_iff]
    intro x hx
    obtain ⟨s, v⟩ := x
    have := (List.of_mem_zip hx).1
    unfold pStart at this
    rcases List.mem_append.mp this with q | q
    · obtain ⟨d, _, rfl⟩ := List.mem_map.mp q; rfl
    · rw [List.mem_replicate] at q
      rw [q.2]; rfl
  refine ⟨by rw [e0]; exact List.nodup_nil, fun x hx => ?_, .of (Ex.refl _), hi⟩
  have hA : ∀ a, A a → Al (baseCtx A Zd H) (List.zip (pStart ds n) (vs.map some ++ List.replicate n none) ++ []) a := fun a ha => ⟨.inl ha, by rw [e0]; simp⟩
  rw [List.append_nil] at hx
  obtain ⟨i, hi⟩ := List.getElem?_of_mem hx
  obtain ⟨s, v⟩ := x
  rw [List.getElem?_zip_eq_some] at hi
  obtain ⟨h1, h2⟩ := hi
  unfold pStart at h1
  by_cases c : i < ds.length
  · rw [List.getElem?_append_left (by simp; omega), List.getElem?_map] at h1
    rw [List.getElem?_append_left (by simp; rw [h.length]; omega), List.getElem?_map] at h2
    cases hd : ds[i]? with
    | none => rw [hd] at h1; cases h1
    | some d =>
      rw [hd] at h1
      cases h1
      obtain ⟨w, hw, r⟩ := h.get hd
      rw [hw] at h2
      cases h2
      exact r.mono fun a o ha ho => ⟨hA a ha, ho⟩
  · rw [List.getElem?_append_right (by simp; omega)] at h1
    have := List.mem_of_getElem? h1
    rw [List.mem_replicate] at this
    obtain rfl : s = .un := this.2
    trivial
end Lt
namespace Lt
open PySem PySem.Spec PyProof.Rows L2 Evl
open SX (S)
variable [ZI]
open PySem.W (EachIs AllAlike Sortable dataLe)
def encB (b : V × Dt) : PyData := toP b.2
def rSortZ (K : PySem.W.Frag) : List V → Hp → VK → Prop := fun vs H Q => ∃ (a : Addr) (bs : List (V × Dt)), vs = [.ref a] ∧ SqL K H a (bs.map (·.1)) ∧ (∀ b ∈ bs, Dp K H b.1 (encB b)) ∧ AllAlike (bs.map encB) ∧ Sortable (bs.map encB) ∧ (∀ b ∈ bs, (encB b).depth ≤ 60) ∧
  ∀ p, H p = none → Q (.ref p) (upd H p (.lst ((bs.mergeSort (dataLe false encB)).map (·.1))))
theorem each_of_vals {R : V × Dt → Prop} : ∀ {bs : List (V × Dt)} {us : List Value}, Vals (bs.map (·.1)) us → EachIs (fun u (b : V × Dt) => RelV b.1 u) us bs
  | [], _, r => by cases r; exact .nil
  | b :: bs, _, r => by
    cases r with
    | cons h t => exact .cons h (each_of_vals (R := R) t)
theorem vals_of_each : ∀ {bs : List (V × Dt)} {us : List Value}, EachIs (fun u (b : V × Dt) => RelV b.1 u) us bs → Vals (bs.map (·.1)) us
  | _, _, .nil => .nil
  | _, _, .cons h t => .cons h (vals_of_each t)
theorem each_reads {X : Cx} {pins : List (Addr × Obj)} {σ : L2.St} {H : Hp} {s : Shared} (I : L2.Inv X pins σ H s) : ∀ {bs : List (V × Dt)} {us : List Value}, (∀ b ∈ bs, Dp X.K H b.1 (encB b)) → Vals (bs.map (·.1)) us → EachIs (fun u b => ∃ as, Reads s.heap u (encB b) as) us bs
  | [], _, _, r => by cases r; exact .nil
  | b :: bs, _, h, r => by
    cases r with
    | cons h1 t => exact .cons (Dp.reads I _ _ _ (h b (by simp)) h1) (each_reads I (fun b hb => h b (by simp [hb])) t)
theorem cr_sortZ {X : Cx} (hu : X.A.units + 64 < cLine) : CallR X (.builtin "sorted") (rSortZ X.K) := by
  intro pins s σ H vs us Q I r h
  obtain ⟨a, bs, rfl, hs, hd, hal, hk, hdp, q⟩ := h
  obtain ⟨its, rv, hl, hz⟩ := I.list hs
  rw [Vals.ref1 r]
  have hL : bs.length ≤ sizeLine := by simpa using hz
  refine PySem.W.sorted_data (vs := its) (bs := bs) (enc := encB) (R := fun u b => RelV b.1 u) hl.isList (each_of_vals (R := fun _ => True) rv) (each_reads I hd rv) hal hk hL (fun b hb => ?_) fun out ho eo => ?_
  · have := hdp b hb
    omega
  · obtain ⟨ep, he'⟩ := PyProof.Rows.sortedAll_at s.heap its out.toArray
    have hv := vals_of_each eo
    have hlen : ((bs.mergeSort (dataLe false encB)).map (·.1)).length ≤ sizeLine := by
      rw [List.length_map, List.length_mergeSort]; exact hL
    exact ⟨.ref _, upd H (s.heap.objs.size + 1) (.lst ((bs.mergeSort (dataLe false encB)).map (·.1))), I.laid (t' := s.toks) (fun _ _ => PyProof.Rows.sortedAll_old) (Nat.le_succ _) ⟨hlen, out, ep, hv, he'⟩, rfl, q _ (I.hok.fresh (Nat.le_succ _))⟩
/-- sorted data -/
def sortD (ds : List Dt) : List Dt := ds.mergeSort (dataLe false toP)
def zSort (x : Dt) (R : DQ) : Prop := match x with
  | .lst ds => cmpOks 60 ds = true ∧ AllAlike (ds.map toP) ∧ Sortable (ds.map toP) ∧ R true (.lst (sortD ds))
  | _ => False
theorem cmpOks_mem {n : Nat} : ∀ {ds : List Dt}, cmpOks n ds = true → ∀ d ∈ ds, cmpOk n d = true
  | d :: ds, h, e, he => by
    unfold cmpOks at h
    rw [Bool.and_eq_true] at h
    rcases List.mem_cons.mp he with rfl | he
    · exact h.1
    · exact cmpOks_mem h.2 e he
theorem zip_fst {α β : Type} : ∀ {l : List α} {m : List β}, l.length = m.length → (l.zip m).map (·.1) = l
  | [], _, _ => rfl
  | a :: l, [], h => by cases h
  | a :: l, b :: m, h => by
    show a :: (l.zip m).map (·.1) = _
    rw [zip_fst (by simpa using h)]
theorem zip_snd {α β : Type} : ∀ {l : List α} {m : List β}, l.length = m.length → (l.zip m).map (·.2) = m
  | [], [], _ => rfl
  | [], _ :: _, h => by cases h
  | a :: l, [], h => by cases h
  | a :: l, b :: m, h => by
    show b :: (l.zip m).map (·.2) = _
    rw [zip_snd (by simpa using h)]
theorem frall_pairs {A : Addr → Prop} {H : Hp} : ∀ {bs : List (V × Dt)}, (∀ b ∈ bs, Fr A H b.2 b.1) → FrAll A H (bs.map (·.2)) (bs.map (·.1))
  | [], _ => rfl
  | b :: bs, h => .cons (h b (by simp)) (frall_pairs fun b hb => h b (by simp [hb]))
theorem z_sort {K : PySem.W.Frag} : UnZ (fun x H Q => rSortZ K [x] H Q) zSort := by
  intro c L H x dx Q R h wx hr k
  unfold zSort at hr
  split at hr
  · rename_i ds
    obtain ⟨hc, hal, hk, hr⟩ := hr
    obtain ⟨p, xs, rfl, g1, g2⟩ := wx.lst h
    have e1 : (xs.zip ds).map (·.1) = xs := zip_fst g2.length
    have e2 : (xs.zip ds).map (·.2) = ds := zip_snd g2.length
    have e3 : (xs.zip ds).map encB = ds.map toP := by
      have : (xs.zip ds).map encB = ((xs.zip ds).map (·.2)).map toP := by rw [List.map_map]; rfl
      rw [this, e2]
    have hm : ∀ b ∈ xs.zip ds, Fr (Al c L) H b.2 b.1 ∧ b.2 ∈ ds := fun b hb => by
      obtain ⟨i, hi⟩ := List.getElem?_of_mem hb
      obtain ⟨b1, b2⟩ := b
      rw [List.getElem?_zip_eq_some] at hi
      obtain ⟨v, hv, r⟩ := g2.get hi.2
      rw [hi.1] at hv; cases hv
      exact ⟨r, List.mem_of_getElem? hi.2⟩
    refine ⟨p, xs.zip ds, rfl, by rw [e1]; exact SqL.of g1, fun b hb => ?_, by rw [e3]; exact hal, by rw [e3]; exact hk, fun b hb => ?_, fun r hp => k _ _ _ _ hr ?_⟩
    · exact (fr_rp 60 b.2 b.1 (cmpOks_mem hc _ (hm b hb).2) (hm b hb).1).dp
    · exact (okD_toP 60 b.2 (cmpOks_mem hc _ (hm b hb).2)).2
    · refine h.newL ?_ hp (Ex.new hp) upd_same
      have : sortD ds = ((xs.zip ds).mergeSort (dataLe false encB)).map (·.2) := by
        have := PySem.W.sort_maps (r := dataLe false encB) (s := dataLe false toP) (fun b : V × Dt => b.2) (l := xs.zip ds) (fun a _ b _ => rfl)
        rw [this, e2]; rfl
      rw [this]
      exact frall_pairs fun b hb => (hm b (List.mem_mergeSort.mp hb)).1
  · exact hr.elim
/-- the order of texts -/
def leT (a b : List Nat) : Bool := decide (a ≤ b)
def sortT (l : List (List Nat)) : List (List Nat) := l.mergeSort leT
theorem sortD_strs (l : List (List Nat)) : sortD (l.map .str) = (sortT l).map .str := by
  unfold sortD sortT
  rw [PySem.W.sort_maps (s := dataLe false toP) (fun x : List Nat => Dt.str x)]
  intro a _ b _
  show leT a b = dataLe false toP (Dt.str a) (Dt.str b)
  have := congrFun (congrFun (PySem.W.dataLe_str (fun x : List Nat => S x)) a) b
  have e : dataLe false toP (Dt.str a) (Dt.str b) = dataLe false (fun x : List Nat => PyData.str (S x)) a b := rfl
  rw [e, this, S_cps, S_cps]; rfl
theorem alike_strs (l : List (List Nat)) : AllAlike ((l.map Dt.str).map toP) := by
  rw [List.map_map]
  exact PySem.W.AllAlike.of fun b b' => by simp [PySem.W.alike, Function.comp, toP]
theorem sortable_strs (l : List (List Nat)) : Sortable ((l.map Dt.str).map toP) := by
  rw [List.map_map]
  exact PySem.W.Sortable.others fun b => ⟨by simp [Function.comp, toP], by simp [Function.comp, toP]⟩
def okT (l : List Nat) : Prop := ∀ ch ∈ l, ch < 1114112
theorem cmpOks_of {n : Nat} {ds : List Dt} (h : ∀ d ∈ ds, cmpOk n d = true) : cmpOks n ds = true := by
  induction ds with
  | nil => unfold cmpOks; rfl
  | cons d ds ih =>
    unfold cmpOks
    rw [h d (by simp), ih fun e he => h e (by simp [he])]; rfl
theorem cmpOk_str {n : Nat} {l : List Nat} (h : okT l) : cmpOk (n + 1) (.str l) = true := by
  unfold cmpOk
  exact List.all_eq_true.mpr fun c hc => decide_eq_true (h c hc)
theorem cmpOks_strs {n : Nat} {l : List (List Nat)} (h : ∀ x ∈ l, okT x) : cmpOks (n + 1) (l.map .str) = true := cmpOks_of fun d hd => by
  obtain ⟨x, hx, rfl⟩ := List.mem_map.mp hd
  exact cmpOk_str (h x hx)
theorem zs_strs0 {l : List (List Nat)} {R : DQ} (h : ∀ x ∈ l, okT x) (k : R true (.lst ((sortT l).map .str))) : zSort (.lst (l.map .str)) R := by
  refine ⟨cmpOks_strs h, alike_strs l, sortable_strs l, ?_⟩
  rw [sortD_strs]; exact k
theorem min_two_str {P : Program} {w : World} {A : Around} {E : Value → Shared → Prop} {s : Shared} {a b : Str} {t u : Tok} {Q : Value → Shared → Prop} (hh : A.handled = none)
    (h : ∀ h' tk, (∀ c o, s.heap.get? c = some o → h'.get? c = some o) → Q (if b.cps.toList < a.cps.toList then .str b u else .str a t) { s with heap := h', toks := tk }) :
    wpAny (model P w) A (call (.builtin "min") [.str a t, .str b u]) Q E s := by
  have hT : (s.heap.push { cls := .type "tuple", data := .seq #[.str a t, .str b u] }).IsTuple s.heap.objs.size #[.str a t, .str b u] := ⟨_, Heap.get?_push_size _ rfl, rfl, 0, rfl⟩
  refine call_min_two (wpAny_pyIter_tuple hT ?_)
  have hsz : (s.heap.push { cls := .type "tuple", data := .seq #[.str a t, .str b u] }).objs.size = s.heap.objs.size + 1 := Heap.size_push ..
  refine ⟨_, [_, s.heap.objs.size], [_], _, _, _, fun i j => decide ((#[a, b].getD i a).cps.toList < (#[a, b].getD j a).cps.toList), rfl, Walks.tuple (A := A.in1) hh _ s.heap.objs.size (by rw [hsz]; exact Nat.ne_of_lt (Nat.lt_succ_self _)) #[.str a t, .str b u],
    ⟨⟨_, Heap.get?_push_size _ rfl, rfl, rfl⟩, hT.push _⟩, fun c hc => ?_, by simp, ?_, fun v h' tk hP hk => ?_⟩
  · show c < ((s.heap.push _).push _).objs.size
    rw [Heap.size_push, hsz]
    rcases List.mem_cons.mp hc with rfl | hc
    · rw [hsz]; exact Nat.lt_succ_self _
    · rcases List.mem_cons.mp hc with rfl | hc
      · exact Nat.lt_succ_of_lt (Nat.lt_succ_self _)
      · cases hc
  · intro i j vi vj s Q E hi hj hq
    have key : ∀ (i : Nat) (v : Value), (#[Value.str a t, .str b u] : Array Value)[i]? = some v → ∃ tk, v = .str (#[a, b].getD i a) tk := by
      intro i v h
      match i, h with
      | 0, h => simp at h; exact ⟨t, by simp [← h]⟩
      | 1, h => simp at h; exact ⟨u, by simp [← h]⟩
      | i + 2, h => simp at h
    obtain ⟨t1, rfl⟩ := key i vi hi
    obtain ⟨t2, rfl⟩ := key j vj hj
    exact (PyProof.Rows.lt_str hq : wpAny (model P w) _ (compareOp .Lt (.str _ t1) (.str _ t2)) Q E s)
  · have hold : ∀ c o, s.heap.get? c = some o → h'.get? c = some o := fun c o e => by
      refine hk c o (fun hm => ?_) (Heap.get?_push_of_some _ (Heap.get?_push_of_some _ e))
      rcases List.mem_cons.mp hm with e1 | hm
      · have := Heap.lt_size e; rw [e1, hsz] at this; exact Nat.lt_irrefl _ (Nat.lt_of_succ_lt this)
      · cases hm
    have := h h' tk hold
    have hv : v = if b.cps.toList < a.cps.toList then Value.str b u else Value.str a t := by
      have hP' : (#[Value.str a t, .str b u] : Array Value)[argBest (fun i j => decide ((#[a, b].getD i a).cps.toList < (#[a, b].getD j a).cps.toList)) 1]? = some v := hP
      by_cases hba : b.cps.toList < a.cps.toList
      · have e : argBest (fun i j => decide ((#[a, b].getD i a).cps.toList < (#[a, b].getD j a).cps.toList)) 1 = 1 := by simp [argBest, hba]
        rw [e] at hP'
        simpa [hba] using hP'.symm
      · have e : argBest (fun i j => decide ((#[a, b].getD i a).cps.toList < (#[a, b].getD j a).cps.toList)) 1 = 0 := by simp [argBest, hba]
        rw [e] at hP'
        simpa [hba] using hP'.symm
    rw [hv]; exact this
section
variable {X : Cx} {c : Ctx} {ta tb : TE} {oa ob : Opd}
def rMinS : List V → Hp → VK → Prop := fun xs H Q => ∃ a b, xs = [Tx a, Tx b] ∧ Q (Tx (if b < a then b else a)) H
theorem call_minS (hc : X.calm = true) : CallR X (.builtin "min") rMinS := by
  intro pins s σ H xs us Q I r h
  obtain ⟨a, b, rfl, q⟩ := h
  obtain ⟨u, w', rfl, ⟨t, rfl⟩, ⟨t', rfl⟩⟩ := vals2 r
  refine min_two_str (I.ok.hd hc) fun h' tk k => ⟨_, H, I.kept k, ?_, q⟩
  rw [S_cps, S_cps]
  by_cases hj : b < a
  · rw [if_pos hj, if_pos hj]; exact ⟨_, rfl⟩
  · rw [if_neg hj, if_neg hj]; exact ⟨_, rfl⟩
def rMinZ : List V → Hp → VK → Prop := fun xs H Q => (∃ i j, xs = [.int i, .int j] ∧ Q (.int (if j < i then j else i)) H) ∨ rMinS xs H Q
theorem call_minZ (hc : X.calm = true) : CallR X (.builtin "min") rMinZ := CallR.or (call_min2 hc) (call_minS hc)
def zMin (x y : Dt) (R : DQ) : Prop := match x, y with
  | .int i, .int j => R false (.int (if j < i then j else i))
  | .str a, .str b => R false (.str (if b < a then b else a))
  | _, _ => False
theorem z_min : OpZ (fun x y H Q => rMinZ [x, y] H Q) zMin := by
  intro c L H x y dx dy Q R h wx wy hr k
  unfold zMin at hr
  split at hr
  · rw [wx.scal_int h, wy.scal_int h]
    exact .inl ⟨_, _, rfl, k _ _ _ _ hr (h.int _)⟩
  · rw [wx.scal_str h, wy.scal_str h]
    exact .inr ⟨_, _, rfl, k _ _ _ _ hr (h.str _)⟩
  · exact hr.elim
theorem ce_cb2 {r : List V → Hp → VK → Prop} {rp : Dt → Dt → DQ → Prop} (ha : CO c ta oa) (hb : CO c tb ob) (hr : OpZ (fun x y H Q => r [x, y] H Q) rp) : CE c (tCB r (tCons ta (tCons tb tNil))) (pOp rp oa ob) :=
  ce_op (ta := ta) (tb := tb) ha hb hr
/-- tuple(..): the new tuple's object is known to have no dict -/
def rTupZ (K : PySem.W.Frag) : List V → Hp → VK → Prop := fun xs H Q => ∃ p ys, xs = [.ref p] ∧ ((SqL K H p ys ∧ ∀ (l : Addr) (o : Obj), H l = none → o.dict = none → Q (.ref l) (upd H l (.frz o (.tup ys)))) ∨ (SqT K H p ys ∧ Q (.ref p) H))
theorem call_tupZ {K : PySem.W.Frag} (hK : X.K = K) (hc : X.calm = true) : CallR X (.type "tuple") (rTupZ K) := by
  subst hK
  intro pins s σ H xs us Q I r h
  obtain ⟨p, ys, rfl, h⟩ := h
  obtain ⟨u, rfl, rx⟩ := vals1 r
  cases rx
  rcases h with ⟨hq, q⟩ | ⟨hq, q⟩
  · obtain ⟨its, r', pl, hz⟩ := I.list hq
    have hlen := r'.length
    refine call_tuple_list pl.isList (fun h' kp => ?_) (by simp only [List.size_toArray] <;> omega)
    have J : Inv X pins σ H { s with heap := h' } := I.kept (t' := s.toks) kp
    have J2 := J.laid (a := h'.objs.size) (o := .frz { cls := .type "tuple", data := .seq its.toArray } (.tup ys)) (t' := s.toks) (h' := h'.push { cls := .type "tuple", data := .seq its.toArray }) (fun b o e => Heap.get?_push_of_some _ e) (Nat.le_refl _)
      ⟨Heap.get?_push_size _ rfl, hz, its, r', IsTup.new _ _⟩
    exact ⟨.ref h'.objs.size, _, J2, rfl, q _ _ (J.hok.fresh (Nat.le_refl _)) rfl⟩
  · obtain ⟨its, r', pl, hz⟩ := I.tuple hq
    exact call_tuple_same pl ⟨.ref p, H, I, rfl, q⟩
theorem RelL.newK {c : Ctx} {L : List Pc} {H : Hp} (h : RelL c L H) {ds : List Dt} {xs : List V} (r : FrAll (Al c L) H ds xs) {p : Addr} {H2 : Hp} {o : Obj} (hp : H p = none) (e : Ex H H2) (ho : o.dict = none) (h2 : H2 p = some (.frz o (.tup xs))) : RelL c ((mkS false (.tpk ds), some (.ref p)) :: L) H2 :=
  (h.ex e).fr ⟨p, xs, o, rfl, ⟨c.nb _ (h.h0 hp), fun z => (owns_in h z).2 hp⟩, h2, ho, r.mono fun a o ha ho => ⟨ha, e _ _ ho⟩⟩
def zTup (x : Dt) (R : DQ) : Prop := match x with
  | .lst ds => R false (.tpk ds)
  | .tup ds => R false (.tup ds)
  | .tpk ds => R false (.tpk ds)
  | _ => False
theorem z_tup {K : PySem.W.Frag} : UnZ (fun x H Q => rTupZ K [x] H Q) zTup := by
  intro c L H x dx Q R h wx hr k
  unfold zTup at hr
  split at hr
  · obtain ⟨p, xs, rfl, g1, g2⟩ := wx.lst h
    exact ⟨p, xs, rfl, .inl ⟨SqL.of g1, fun l o hl ho => k _ _ _ _ hr (h.newK g2 hl (Ex.new hl) ho upd_same)⟩⟩
  · obtain ⟨p, xs, rfl, g0, g1, g2⟩ := wx.tup h
    exact ⟨p, xs, rfl, .inr ⟨.inl g1, k _ _ _ _ hr (h.fr ⟨p, xs, rfl, g0, g1, g2⟩)⟩⟩
  · obtain ⟨p, xs, o, rfl, g0, g1, g2, g3⟩ := wx.tpk h
    exact ⟨p, xs, rfl, .inr ⟨.inl (.inr ⟨o, g1⟩), k _ _ _ _ hr (h.fr ⟨p, xs, o, rfl, g0, g1, g2, g3⟩)⟩⟩
  · exact hr.elim
/-- () -/
def tTupK : TE := fun _ H Q => ∀ (l : Addr) (o : Obj), H l = none → o.dict = none → Q (.ref l) (upd H l (.frz o (.tup [])))
theorem pe_tupK {x1 pos} : PE X (.Tuple [] x1 pos) tTupK := by
  refine ⟨fun pins s σ H Q I hq => ?_⟩
  refine wpAny_Tuple_spliced (thn ((pa_nil (X := X)).run pos pins s σ H (fun us H1 => us = [] ∧ H1 = H) I ⟨rfl, rfl⟩) fun us s1 ⟨xs, H1, I1, r, e1, e2⟩ => ?_)
  subst e1 e2
  cases r
  refine ⟨Nat.zero_le _, ?_⟩
  have hf : H1 s1.heap.objs.size = none := I1.hok.fresh (Nat.le_refl _)
  refine ⟨.ref s1.heap.objs.size, upd H1 s1.heap.objs.size (.frz { cls := .type "tuple", data := .seq ([] : List Value).toArray } (.tup [])), I1.laid (t' := s1.toks) (fun b u e => Heap.get?_push_of_some _ e) (Nat.le_refl _) ?_, rfl, hq _ _ hf rfl⟩
  exact ⟨Heap.get?_push_size _ rfl, Nat.zero_le _, [], .nil, ⟨_, Heap.get?_push_size _ rfl, rfl, _, rfl⟩⟩
@[reducible] def pTupK : PTE := fun s Q => Q false (.tpk []) s
theorem ce_tupK {c : Ctx} : CE c tTupK pTupK := fun F s σ H Q R h hp k => fun l o hl ho => k _ _ _ _ _ hp (.of_top h.1 (h.2.newK (ds := []) (xs := []) rfl hl (Ex.new hl) ho upd_same))
def zSum (x : Dt) (R : DQ) : Prop := match x with
  | .lst ds => ∃ ns : List Int, ds = ns.map .int ∧ R false (.int ns.sum)
  | _ => False
theorem z_sum {K : PySem.W.Frag} : UnZ (fun x H Q => rSum K [x] H Q) zSum := by
  intro c L H x dx Q R h wx hr k
  unfold zSum at hr
  split at hr
  · obtain ⟨ns, rfl, hr⟩ := hr
    obtain ⟨p, xs, rfl, g1, g2⟩ := wx.lst h
    rw [g2.ints_inv] at g1
    exact ⟨p, ns, rfl, SqL.of g1, k _ _ _ _ hr (h.int _)⟩
  · exact hr.elim
theorem cr_sumK {K : PySem.W.Frag} (hK : X.K = K) (hc : X.calm = true) : CallR X (.builtin "sum") (rSum K) := hK ▸ cr_sum hc
theorem z_run {t : TS} {tp : PTS} {N : List Str} {vs : List V} {Q : VK} {A Zd : Addr → Prop} {H : Hp} {ds : List Dt} {R : DQ} {n : Nat} (hf : FrAll A H ds vs) (hi : Iv (baseCtx A Zd H) H) (hn : N.length - ds.length = n) (k : ∀ b d v H', R b d → RelL (baseCtx A Zd H) [(mkS b d, some v)] H' → Q v H')
    (hc : CS (baseCtx A Zd H) t tp) (hp : tp ⟨fun _ => R false .non, R, fun _ => False, fun _ => False, fun _ _ => False⟩ (pStart ds n)) : t { nx := fun _ H' => Q .non H', rt := Q } (L2.start N vs) H := by
  have hs : L2.start N vs = vs.map some ++ List.replicate n none := by
    unfold L2.start
    rw [hf.length, hn]
  rw [hs]
  refine hc [] _ _ H _ _ (start_rel hf hi) hp ⟨fun s σ H' q h' => ?_, fun b d v H' q h' => k b d v H' q h', fun _ _ _ q _ => q.elim, fun _ _ _ q _ => q.elim, fun _ _ _ _ _ q _ => q.elim⟩
  exact k false .non .non H' q ((h'.2.scal (d := .non) (v := .non) fun _ _ => rfl).sub (List.cons_sublist_cons.mpr (List.nil_sublist _)))
theorem spZ_len {pf : PF} {n : Nat} (h : ∀ ds R, pf ds R → ds.length = n) {K : PySem.W.Frag} : ∀ vs H Q E, spZ pf vs H Q E → vs.length = n := fun vs H Q E ⟨A, Zd, ds, R, hf, _, hp, _⟩ => by rw [hf.length]; exact h _ _ hp
end
end Lt
namespace Lt
open PySem PySem.Spec PyProof.Rows L2 Evl
open SX (S)
variable [ZI]
section
variable {c : Ctx} {t ta tb : TE} {tp pa pb : PTE} {oa ob : Opd} {K : PySem.W.Frag}
@[reducible] def pJoin (pa : PTE) (ob : Opd) : PTE := fun s Q => pa s fun _ d s1 => match d with
  | .str a => pOpd ob s1 fun gb s2 => match gb s2 with
    | some y => zJoin (.str a) y fun b d => Q b d s2
    | none => False
  | _ => False
theorem ce_join (ha : CE c ta pa) (hb : CO c tb ob) : CE c (tBM K "str" (rJoinX K) ta (tCons tb tNil)) (pJoin pa ob) := fun F s σ H Q R h hp k =>
  ha F s σ H _ _ h hp fun b d s1 v H1 q h1 => by
    split at q
    · rename_i a
      refine ⟨by rw [str_of h1]; exact ty_str, hb _ s1 σ H1 _ _ h1.mkfz q fun gb s2 v2 H2 F2 q2 h2 w2 => ?_⟩
      split at q2
      · rename_i y ey
        have hx : Wk (s2.zip σ ++ (F2 ++ ((.fz (.str a), some v) :: F))) (.str a) v := .inl (List.mem_append_right _ (List.mem_append_right _ (List.mem_cons_self ..)))
        refine (z_join (K := K) c _ H2 v v2 (.str a) y Q _ h2.2 hx (w2 s2 [] H2 y ey h2) q2 fun b d v' H' rd hl => k _ _ _ _ _ rd ?_).2
        exact Rel.res (F2 := F2 ++ [(.fz (.str a), some v)]) h2.1 (by rw [List.append_assoc]; exact hl)
      · exact q2.elim
    · exact q.elim
@[reducible] def pNever : PTS := fun _ _ => False
theorem cs_never : CS c tNever pNever := fun F s σ H D P hr hp k => hp
/-- op= -/
def rIpZ : TIp := fun x y H Q => ipI (fun i j => i + j) x y H Q ∨ ∃ a b, x = Tx a ∧ y = Tx b ∧ a.length + b.length ≤ sizeLine ∧ Q (Tx (a ++ b)) H
theorem ip_addZ {X : Cx} : PIp X .Add rIpZ := by
  intro pins s σ H x y v u Q I rx ry h
  rcases h with h | ⟨a, b, rfl, rfl, hl, q⟩
  · exact ip_add pins s σ H x y v u Q I rx ry h
  · obtain ⟨t, rfl⟩ := rx
    obtain ⟨t', rfl⟩ := ry
    refine PyProof.Rows.iadd_str (fun t' tk => ?_) (by rw [SX.S_len, SX.S_len]; exact hl)
    rw [SX.S_cat]
    exact ⟨Tx (a ++ b), H, I.tok _, ⟨_, rfl⟩, q⟩
def zIpAdd (x y : Dt) (R : DQ) : Prop := match x, y with
  | .int i, .int j => R false (.int (i + j))
  | .str a, .str b => a.length + b.length ≤ 16777216 ∧ R false (.str (a ++ b))
  | _, _ => False
theorem z_ipadd : OpZ rIpZ zIpAdd := by
  intro c L H x y dx dy Q R h wx wy hr k
  unfold zIpAdd at hr
  split at hr
  · rw [wx.scal_int h, wy.scal_int h]
    exact .inl ⟨_, _, rfl, rfl, k _ _ _ _ hr (h.int _)⟩
  · rw [wx.scal_str h, wy.scal_str h]
    exact .inr ⟨_, _, rfl, rfl, by rw [sizeLine_eq]; exact hr.1, k _ _ _ _ hr.2 (h.str _)⟩
  · exact hr.elim
def zIpSub (x y : Dt) (R : DQ) : Prop := zI0 (· - ·) x y R
/-- a law's walk, behind its drawing list -/
theorem z_law {t : TS} {tp : PTS} {vs : List V} {Q : VK} {H : Hp} {ds : List Dt} {n : Nat} (hf : FrAll (fun _ => True) H ds vs) (hi : IvH H) (k : ∀ H', Q (.bl true) H')
    (hc : CS (baseCtx (fun _ => True) (fun _ => True) H) t tp) (hp : tp ⟨fun _ => False, fun _ d => d = .bl true, fun _ => False, fun _ => False, fun _ _ => False⟩ (pStart ds n)) {f : L2.St → Hp → Prop} : t { nx := f, rt := Q } (vs.map some ++ List.replicate n none) H :=
  hc [] _ _ H _ _ (start_rel hf hi.base) hp ⟨fun s σ H' q h' => q.elim, fun b d v H' q h' => by
    subst q
    have : v = .bl true := h'.mkfz.ok _ (List.mem_cons_self ..)
    subst this; exact k _, fun _ _ _ q _ => q.elim, fun _ _ _ q _ => q.elim, fun _ _ _ _ _ q _ => q.elim⟩
end
section
variable {c : Ctx} {L : List Pc} {H H' : Hp}
theorem sub_int (h : RelL c L H) (e : Ex H H') (i : Int) : RelL (subCtx c L H) [(mkS false (.int i), some (.int i))] H' := ((RelL.start (subCtx c L H) (Iv.sub h)).ex e).int i
theorem sub_str (h : RelL c L H) (e : Ex H H') (i : List Nat) : RelL (subCtx c L H) [(mkS false (.str i), some (Tx i))] H' := ((RelL.start (subCtx c L H) (Iv.sub h)).ex e).str i
theorem sub_bl (h : RelL c L H) (e : Ex H H') (i : Bool) : RelL (subCtx c L H) [(mkS false (.bl i), some (.bl i))] H' := ((RelL.start (subCtx c L H) (Iv.sub h)).ex e).bl i
theorem sub_non (h : RelL c L H) (e : Ex H H') : RelL (subCtx c L H) [(mkS false .non, some .non)] H' := ((RelL.start (subCtx c L H) (Iv.sub h)).ex e).scal fun _ _ => rfl
end
end Lt
namespace Lt
open PySem PySem.Spec PyProof.Rows L2 Evl
open SX (S)
variable [ZI]
section
variable {i j : Int} {a b l m : List Nat} {ch dh : Nat} {p q : Bool} {ds es : List Dt} {R : DQ} {x y d : Dt}
theorem zAdd_i : zAdd (.int i) (.int j) R = R false (.int (i + j)) := rfl
theorem zAdd_s : zAdd (.str a) (.str b) R = (a.length + b.length ≤ 16777216 ∧ R false (.str (a ++ b))) := rfl
theorem zAdd_l : zAdd (.lst ds) (.lst es) R = (ds.length + es.length ≤ 16777216 ∧ R true (.lst (ds ++ es))) := rfl
theorem zAdd_t : zAdd (.tup ds) (.tup es) R = (ds.length + es.length ≤ 16777216 ∧ R false (.tup (ds ++ es))) := rfl
theorem zIpAdd_i : zIpAdd (.int i) (.int j) R = R false (.int (i + j)) := rfl
theorem zIpAdd_s : zIpAdd (.str a) (.str b) R = (a.length + b.length ≤ 16777216 ∧ R false (.str (a ++ b))) := rfl
theorem zIpSub_i : zIpSub (.int i) (.int j) R = R false (.int (i - j)) := rfl
theorem zSub_i : zSub (.int i) (.int j) R = R false (.int (i - j)) := rfl
theorem zMul_i : zMul (.int i) (.int j) R = (CMul i j ∧ R false (.int (i * j))) := rfl
theorem zMod_i : zMod (.int i) (.int j) R = (j ≠ 0 ∧ R false (.int (Int.fmod i j))) := rfl
theorem zDiv_i : zDiv (.int i) (.int j) R = (CDivN i j ∧ R false (.int (Int.fdiv i j))) := rfl
theorem zPow_i : zPow (.int i) (.int j) R = (CPow i j ∧ R false (.int (i ^ j.toNat))) := rfl
theorem zNeg_i : zNeg (.int i) R = R false (.int (-i)) := rfl
theorem zLt_i : zLt (.int i) (.int j) R = R false (.bl (decide (i < j))) := rfl
theorem zGt_i : zGt (.int i) (.int j) R = R false (.bl (decide (j < i))) := rfl
theorem zLe_i : zLe (.int i) (.int j) R = R false (.bl (decide (i ≤ j))) := rfl
theorem zGe_i : zGe (.int i) (.int j) R = R false (.bl (decide (j ≤ i))) := rfl
theorem zLt_s : zLt (.str a) (.str b) R = R false (.bl (decide (a < b))) := rfl
theorem zGt_s : zGt (.str a) (.str b) R = R false (.bl (decide (b < a))) := rfl
theorem zLe_s : zLe (.str a) (.str b) R = R false (.bl (!decide (b < a))) := rfl
theorem zGe_s : zGe (.str a) (.str b) R = R false (.bl (!decide (a < b))) := rfl
theorem zLt_c : zLt (.str [ch]) (.str [dh]) R = R false (.bl (decide (ch < dh))) := by rw [zLt_s, lt_one]
theorem zGt_c : zGt (.str [ch]) (.str [dh]) R = R false (.bl (decide (dh < ch))) := by rw [zGt_s, lt_one]
theorem zLe_c : zLe (.str [ch]) (.str [dh]) R = R false (.bl (decide (ch ≤ dh))) := by
  have e : (!decide (dh < ch)) = decide (ch ≤ dh) := by by_cases q : dh < ch <;> simp [q] <;> omega
  rw [zLe_s, lt_one, e]
theorem zGe_c : zGe (.str [ch]) (.str [dh]) R = R false (.bl (decide (dh ≤ ch))) := by
  have e : (!decide (ch < dh)) = decide (dh ≤ ch) := by by_cases q : ch < dh <;> simp [q] <;> omega
  rw [zGe_s, lt_one, e]
theorem zEq_i : zEq (.int i) (.int j) R = R false (.bl (decide (i = j))) := by simp [zEq, zEqG]
theorem zNe_i : zNe (.int i) (.int j) R = R false (.bl (!decide (i = j))) := by simp [zNe, zEqG]
theorem zEq_s : zEq (.str a) (.str b) R = R false (.bl (decide (a = b))) := by simp [zEq, zEqG]
theorem zNe_s : zNe (.str a) (.str b) R = R false (.bl (!decide (a = b))) := by simp [zNe, zEqG]
theorem zEq_b : zEq (.bl p) (.bl q) R = R false (.bl (decide (p = q))) := by simp [zEq, zEqG]
theorem zNe_b : zNe (.bl p) (.bl q) R = R false (.bl (!decide (p = q))) := by simp [zNe, zEqG]
theorem one_eq (c d : Nat) : decide ([c] = [d]) = decide (c = d) := by by_cases q : c = d <;> simp [q]
theorem zEq_c : zEq (.str [ch]) (.str [dh]) R = R false (.bl (decide (ch = dh))) := by rw [zEq_s, one_eq]
theorem zNe_c : zNe (.str [ch]) (.str [dh]) R = R false (.bl (!decide (ch = dh))) := by rw [zNe_s, one_eq]
theorem eqD_nil : eqD (.lst ds) (.lst []) = ds.isEmpty := by
  cases ds <;> rfl
theorem eqD_nilT : eqD (.tup ds) (.tup []) = ds.isEmpty := by
  cases ds <;> rfl
theorem cmpOk_nil {n : Nat} : cmpOk (n + 1) (.lst []) = true := rfl
theorem cmpOk_nilT {n : Nat} : cmpOk (n + 1) (.tup []) = true := rfl
theorem zEq_nil : zEq (.lst ds) (.lst []) R = (cmpOks 59 ds = true ∧ R false (.bl ds.isEmpty)) := by
  simp only [zEq, zEqG, cmpOk_nil, eqD_nil, true_and, Bool.false_bne]; rfl
theorem zNe_nil : zNe (.lst ds) (.lst []) R = (cmpOks 59 ds = true ∧ R false (.bl (!ds.isEmpty))) := by
  simp only [zNe, zEqG, cmpOk_nil, eqD_nil, true_and, Bool.true_bne]; rfl
theorem zEq_nilT : zEq (.tup ds) (.tup []) R = (cmpOks 59 ds = true ∧ R false (.bl ds.isEmpty)) := by
  simp only [zEq, zEqG, cmpOk_nilT, eqD_nilT, true_and, Bool.false_bne]; rfl
theorem zNe_nilT : zNe (.tup ds) (.tup []) R = (cmpOks 59 ds = true ∧ R false (.bl (!ds.isEmpty))) := by
  simp only [zNe, zEqG, cmpOk_nilT, eqD_nilT, true_and, Bool.true_bne]; rfl
theorem zIn_s : zIn (.str [ch]) (.str l) R = R false (.bl (decide (ch ∈ l))) := by
  simp [zIn, zInG, zInG0, fgt]
theorem zNotIn_s : zNotIn (.str [ch]) (.str l) R = R false (.bl (!decide (ch ∈ l))) := by
  simp [zNotIn, zInG, zInG0, fgt]
theorem zIsN_n : zIsN .non .non R = R false (.bl true) := rfl
theorem zNotN_n : zNotN .non .non R = R false (.bl false) := rfl
theorem zIsN_i : zIsN (.int i) .non R = R false (.bl false) := rfl
theorem zIsN_s : zIsN (.str a) .non R = R false (.bl false) := rfl
theorem zIsN_b : zIsN (.bl p) .non R = R false (.bl false) := rfl
theorem zIsN_t : zIsN (.tup ds) .non R = R false (.bl false) := rfl
theorem zIsN_l : zIsN (.lst ds) .non R = R false (.bl false) := rfl
theorem zNotN_i : zNotN (.int i) .non R = R false (.bl true) := rfl
theorem zNotN_s : zNotN (.str a) .non R = R false (.bl true) := rfl
theorem zNotN_b : zNotN (.bl p) .non R = R false (.bl true) := rfl
theorem zNotN_t : zNotN (.tup ds) .non R = R false (.bl true) := rfl
theorem zNotN_l : zNotN (.lst ds) .non R = R false (.bl true) := rfl
theorem zLen_s : zLen (.str a) R = (a.length ≤ 16777216 ∧ R false (.int a.length)) := rfl
theorem zLen_l : zLen (.lst ds) R = R false (.int ds.length) := rfl
theorem zLen_t : zLen (.tup ds) R = R false (.int ds.length) := rfl
theorem zAbs_i : zAbs (.int i) R = R false (.int (if i < 0 then -i else i)) := rfl
theorem zList_s : zList (.str a) R = (a.length ≤ 16777216 ∧ R true (.lst (a.map fun ch => .str [ch]))) := rfl
theorem zList_l : zList (.lst ds) R = R true (.lst ds) := rfl
theorem zList_t : zList (.tup ds) R = R true (.lst ds) := rfl
theorem zTup_l : zTup (.lst ds) R = R false (.tpk ds) := rfl
theorem zTup_k : zTup (.tpk ds) R = R false (.tpk ds) := rfl
theorem zLen_k : zLen (.tpk ds) R = R false (.int ds.length) := rfl
theorem zList_k : zList (.tpk ds) R = R true (.lst ds) := rfl
theorem zIsN_k : zIsN (.tpk ds) .non R = R false (.bl false) := rfl
theorem zNotN_k : zNotN (.tpk ds) .non R = R false (.bl true) := rfl
theorem zSl_k {lo hi : Option Int} : zSl (.tpk ds) lo hi R = R false (.tup (cutL ds lo hi)) := rfl
theorem zIs_k {n : String} : zIs n (.tpk ds) R = R false (.bl (isiB "tuple" n)) := rfl
theorem zAdd_k : zAdd (.tpk ds) (.tpk es) R = (ds.length + es.length ≤ 16777216 ∧ R false (.tup (ds ++ es))) := rfl
theorem zTup_t : zTup (.tup ds) R = R false (.tup ds) := rfl
theorem zRev_s : zRev (.str a) R = (a.length ≤ 16777216 ∧ R false (.str a.reverse)) := rfl
theorem zRevL_l : zRevL (.lst ds) R = R true (.lst ds.reverse) := rfl
theorem zMin_i : zMin (.int i) (.int j) R = R false (.int (if j < i then j else i)) := rfl
theorem zMin_s : zMin (.str a) (.str b) R = R false (.str (if b < a then b else a)) := rfl
theorem zSl_s {lo hi : Option Int} : zSl (.str a) lo hi R = (a.length ≤ 16777216 ∧ R false (.str (cutL a lo hi))) := rfl
theorem zSl_l {lo hi : Option Int} : zSl (.lst ds) lo hi R = R true (.lst (cutL ds lo hi)) := rfl
theorem zSl_t {lo hi : Option Int} : zSl (.tup ds) lo hi R = R false (.tup (cutL ds lo hi)) := rfl
theorem zIs_s {n : String} : zIs n (.str a) R = R false (.bl (isiB "str" n)) := rfl
theorem zIs_i {n : String} : zIs n (.int i) R = R false (.bl (isiB "int" n)) := rfl
theorem zIs_b {n : String} : zIs n (.bl p) R = R false (.bl (isiB "bool" n)) := rfl
theorem zIs_n {n : String} : zIs n .non R = R false (.bl (isiB "NoneType" n)) := rfl
theorem zIs_l {n : String} : zIs n (.lst ds) R = R false (.bl (isiB "list" n)) := rfl
theorem zIs_t {n : String} : zIs n (.tup ds) R = R false (.bl (isiB "tuple" n)) := rfl
theorem isi_ss : isiB "str" "str" = true := by decide
theorem isi_st : isiB "str" "tuple" = false := by decide
theorem isi_sl : isiB "str" "list" = false := by decide
theorem isi_si : isiB "str" "int" = false := by decide
theorem isi_sb : isiB "str" "bool" = false := by decide
theorem isi_is : isiB "int" "str" = false := by decide
theorem isi_it : isiB "int" "tuple" = false := by decide
theorem isi_il : isiB "int" "list" = false := by decide
theorem isi_ii : isiB "int" "int" = true := by decide
theorem isi_ib : isiB "int" "bool" = false := by decide
theorem isi_bs : isiB "bool" "str" = false := by decide
theorem isi_bt : isiB "bool" "tuple" = false := by decide
theorem isi_bl : isiB "bool" "list" = false := by decide
theorem isi_bi : isiB "bool" "int" = true := by decide
theorem isi_bb : isiB "bool" "bool" = true := by decide
theorem isi_ns : isiB "NoneType" "str" = false := by decide
theorem isi_nt : isiB "NoneType" "tuple" = false := by decide
theorem isi_nl : isiB "NoneType" "list" = false := by decide
theorem isi_ni : isiB "NoneType" "int" = false := by decide
theorem isi_nb : isiB "NoneType" "bool" = false := by decide
theorem isi_ts : isiB "tuple" "str" = false := by decide
theorem isi_tt : isiB "tuple" "tuple" = true := by decide
theorem isi_tl : isiB "tuple" "list" = false := by decide
theorem isi_ti : isiB "tuple" "int" = false := by decide
theorem isi_tb : isiB "tuple" "bool" = false := by decide
theorem isi_ls : isiB "list" "str" = false := by decide
theorem isi_lt : isiB "list" "tuple" = false := by decide
theorem isi_ll : isiB "list" "list" = true := by decide
theorem isi_li : isiB "list" "int" = false := by decide
theorem isi_lb : isiB "list" "bool" = false := by decide
theorem ifT {A B : Prop} : (if true = true then A else B) = A := by simp
theorem ifF {A B : Prop} : (if false = true then A else B) = B := by simp
/-- subscripts -/
theorem zIx_s {k : Nat} (hl : a.length ≤ 16777216) (hk : k < a.length) (e : i = k ∨ i = (k : Int) - a.length) (h : ∀ ch, a[k]? = some ch → R false (.str [ch])) : zIx (.str a) (.int i) R := ⟨hl, k, ⟨hk, e⟩, h⟩
theorem zIx_l {k : Nat} (hk : k < ds.length) (e : i = k ∨ i = (k : Int) - ds.length) (h : ∀ d, ds[k]? = some d → R false d) : zIx (.lst ds) (.int i) R := ⟨k, ⟨hk, e⟩, h⟩
theorem zIx_t {k : Nat} (hk : k < ds.length) (e : i = k ∨ i = (k : Int) - ds.length) (h : ∀ d, ds[k]? = some d → R false d) : zIx (.tup ds) (.int i) R := ⟨k, ⟨hk, e⟩, h⟩
theorem zIx_t0 : zIx (.tup (d :: ds)) (.int 0) R = R false d := by
  refine propext ⟨fun ⟨k, ⟨h1, h2⟩, h3⟩ => ?_, fun h => zIx_t (k := 0) (by simp) (.inl rfl) (by simpa using h)⟩
  have : k = 0 := by simp at h1 h2; omega
  subst this
  exact h3 d rfl
theorem zIx_t1 {e : Dt} : zIx (.tup (d :: e :: ds)) (.int 1) R = R false e := by
  refine propext ⟨fun ⟨k, ⟨h1, h2⟩, h3⟩ => ?_, fun h => zIx_t (k := 1) (by simp) (.inl rfl) (by simpa using h)⟩
  have : k = 1 := by simp at h1 h2; omega
  subst this
  exact h3 e rfl
theorem zIx_t2 {e f : Dt} : zIx (.tup (d :: e :: f :: ds)) (.int 2) R = R false f := by
  refine propext ⟨fun ⟨k, ⟨h1, h2⟩, h3⟩ => ?_, fun h => zIx_t (k := 2) (by simp) (.inl rfl) (by simpa using h)⟩
  have : k = 2 := by simp at h1 h2; omega
  subst this
  exact h3 f rfl
theorem zAll_l {bs : List Bool} (h : R false (.bl (bs.all id))) : zAll (.lst (bs.map .bl)) R := ⟨bs, rfl, h⟩
theorem zJoin_l {ls : List (List Nat)} (hz : (ls.map (·.length)).sum + ls.length * a.length ≤ 16777216) (h : R false (.str (TL.joinL a ls))) : zJoin (.str a) (.lst (ls.map .str)) R := ⟨ls, rfl, hz, h⟩
theorem cmpOks_nats {n : Nat} (l : List Nat) : cmpOks (n + 1) (l.map fun i : Nat => .int i) = true := cmpOks_of fun d hd => by
  obtain ⟨x, hx, rfl⟩ := List.mem_map.mp hd
  rfl
end
/-- comprehensions: what is kept so far -/
theorem fm_step {α β : Type} {l : List α} {i : Nat} {x : α} {p : α → Bool} {f : α → β} (h : l[i]? = some x) : ((l.take (i + 1)).filter p).map f = ((l.take i).filter p).map f ++ if p x = true then [f x] else [] := by
  rw [take_more h, List.filter_append, List.map_append]
  by_cases c : p x = true
  · simp [c]
  · simp [c]
theorem m_step {α β : Type} {l : List α} {i : Nat} {x : α} {f : α → β} (h : l[i]? = some x) : (l.take (i + 1)).map f = (l.take i).map f ++ [f x] := by
  rw [take_more h, List.map_append]; rfl
/-- a comprehension over known items -/
def LcGoal (gp : PTG) (tt : PTT) (te : PTE) (vs : List Nat) (items : List Dt) (s1 : PSt) (Q : PQ) : Prop := items.length ≤ 16000000 ∧ ∃ G : Nat → List Dt → Prop, G 0 [] ∧
  (∀ i d acc, items[i]? = some d → G i acc → gp d (wipeS s1 vs) fun s2 => tt s2 fun b s3 => if b = true then te s3 fun _ e s4 => wipeS s4 vs = wipeS s1 vs ∧ G (i + 1) (acc ++ [e]) else wipeS s3 vs = wipeS s1 vs ∧ G (i + 1) acc) ∧
  ∀ acc, G items.length acc → acc.length ≤ items.length → Q true (.lst acc) (wipeS s1 vs)
theorem pLc_go {ks : List Nat} {ip : PTI} {gp : PTG} {tt : PTT} {te : PTE} {vs : List Nat} {s : PSt} {Q : PQ} (h : ip (frzS s ks) fun items s1 => LcGoal gp tt te vs items s1 Q) : pLc ks ip gp tt te vs s Q := h
def ForGoal (gp : PTG) (tb : PTS) (P : PEnds) (items : List Dt) (s1 : PSt) : Prop := ∃ I : Nat → PSt → Prop, I 0 s1 ∧
  (∀ i d s2, items[i]? = some d → I i s2 → gp d s2 fun s3 => tb { P with nx := I (i + 1), ct := I (i + 1), bk := P.nx } s3) ∧ ∀ s2, I items.length s2 → P.nx s2
theorem pFor_go {ip : PTI} {gp : PTG} {tb : PTS} {P : PEnds} {s : PSt} (h : ip s fun items s1 => ForGoal gp tb P items s1) : pFor ip gp tb P s := h
section
variable {gp : PTG} {tt : PTT} {te : PTE} {tb : PTS} {P : PEnds} {vs : List Nat} {s1 : PSt} {items : List Dt} {Q : PQ} {α : Type}
/-- [f x for x in l] -/
theorem lc_map (l : List α) (g : α → Dt) (f : α → Dt) (e : items = l.map g) (hz : l.length ≤ 16000000)
    (hs : ∀ i x (acc : List Dt) (G : Nat → List Dt → Prop), l[i]? = some x → G (i + 1) (acc ++ [f x]) → gp (g x) (wipeS s1 vs) fun s2 => tt s2 fun b s3 => if b = true then te s3 fun _ e s4 => wipeS s4 vs = wipeS s1 vs ∧ G (i + 1) (acc ++ [e]) else wipeS s3 vs = wipeS s1 vs ∧ G (i + 1) acc)
    (hd : Q true (.lst (l.map f)) (wipeS s1 vs)) : LcGoal gp tt te vs items s1 Q := by
  subst e
  refine ⟨by simpa using hz, fun i acc => acc = (l.take i).map f, rfl, ?_, ?_⟩
  · rintro i d acc hd rfl
    rw [List.getElem?_map] at hd
    cases hx : l[i]? with
    | none => rw [hx] at hd; cases hd
    | some x =>
      rw [hx] at hd
      cases hd
      exact hs i x _ (fun i acc => acc = (l.take i).map f) hx (m_step hx).symm
  · rintro acc rfl _
    simpa using hd
/-- [f x for x in l if p x] -/
theorem lc_fm (l : List α) (g : α → Dt) (p : α → Bool) (f : α → Dt) (e : items = l.map g) (hz : l.length ≤ 16000000)
    (hs : ∀ i x (acc : List Dt) (G : Nat → List Dt → Prop), l[i]? = some x → G (i + 1) (acc ++ if p x = true then [f x] else []) → gp (g x) (wipeS s1 vs) fun s2 => tt s2 fun b s3 => if b = true then te s3 fun _ e s4 => wipeS s4 vs = wipeS s1 vs ∧ G (i + 1) (acc ++ [e]) else wipeS s3 vs = wipeS s1 vs ∧ G (i + 1) acc)
    (hd : Q true (.lst ((l.filter p).map f)) (wipeS s1 vs)) : LcGoal gp tt te vs items s1 Q := by
  subst e
  refine ⟨by simpa using hz, fun i acc => acc = ((l.take i).filter p).map f, rfl, ?_, ?_⟩
  · rintro i d acc hd rfl
    rw [List.getElem?_map] at hd
    cases hx : l[i]? with
    | none => rw [hx] at hd; cases hd
    | some x =>
      rw [hx] at hd
      cases hd
      exact hs i x _ (fun i acc => acc = ((l.take i).filter p).map f) hx (fm_step hx).symm
  · rintro acc rfl _
    simpa using hd
/-- a comprehension, whatever is drawn in it -/
theorem lc_any (l : List α) (g : α → Dt) (G : Nat → List Dt → Prop) (e : items = l.map g) (hz : l.length ≤ 16000000) (h0 : G 0 [])
    (hs : ∀ i x acc, l[i]? = some x → G i acc → gp (g x) (wipeS s1 vs) fun s2 => tt s2 fun b s3 => if b = true then te s3 fun _ e s4 => wipeS s4 vs = wipeS s1 vs ∧ G (i + 1) (acc ++ [e]) else wipeS s3 vs = wipeS s1 vs ∧ G (i + 1) acc)
    (hd : ∀ acc, G l.length acc → acc.length ≤ l.length → Q true (.lst acc) (wipeS s1 vs)) : LcGoal gp tt te vs items s1 Q := by
  subst e
  refine ⟨by simpa using hz, G, h0, ?_, by simpa using hd⟩
  rintro i d acc hd ga
  rw [List.getElem?_map] at hd
  cases hx : l[i]? with
  | none => rw [hx] at hd; cases hd
  | some x =>
    rw [hx] at hd
    cases hd
    exact hs i x acc hx ga
/-- for x in l -/
theorem for_l (l : List α) (g : α → Dt) (I : Nat → PSt → Prop) (e : items = l.map g) (h0 : I 0 s1)
    (hs : ∀ i x s2, l[i]? = some x → I i s2 → gp (g x) s2 fun s3 => tb { P with nx := I (i + 1), ct := I (i + 1), bk := P.nx } s3) (hd : ∀ s2, I l.length s2 → P.nx s2) : ForGoal gp tb P items s1 := by
  subst e
  refine ⟨I, h0, ?_, by simpa using hd⟩
  rintro i d s2 hd i2
  rw [List.getElem?_map] at hd
  cases hx : l[i]? with
  | none => rw [hx] at hd; cases hd
  | some x =>
    rw [hx] at hd
    cases hd
    exact hs i x s2 hx i2
theorem for_r (n : Nat) (I : Nat → PSt → Prop) (e : items = (List.range n).map fun i : Nat => .int (i : Int)) (h0 : I 0 s1)
    (hs : ∀ (i : Nat) s2, i < n → I i s2 → gp (.int (i : Int)) s2 fun s3 => tb { P with nx := I (i + 1), ct := I (i + 1), bk := P.nx } s3) (hd : ∀ s2, I n s2 → P.nx s2) : ForGoal gp tb P items s1 :=
  for_l (List.range n) _ I e h0 (fun i x s2 hx i2 => by
    have hi : i < n := by simpa using (List.getElem?_eq_some_iff.mp hx).1
    rw [List.getElem?_range hi] at hx
    cases hx
    exact hs i s2 hi i2) (by simpa using hd)
end
theorem pSl_f {s : PSt} {d : Dt} : pSl (.fz d :: s) 0 = some d := rfl
theorem pSl_o {s : PSt} {d : Dt} : pSl (.ow d :: s) 0 = some d := rfl
theorem pSl_k {s : PSt} {a : Sl} {k : Nat} : pSl (a :: s) (k + 1) = pSl s k := rfl
theorem mkS_t {d : Dt} : mkS true d = .ow d := rfl
theorem mkS_f {d : Dt} : mkS false d = .fz d := rfl
theorem enumD_signs (l : List Nat) : enumD (signsD l) = (List.range l.length).map fun i : Nat => .tup [.int (i : Int), .str [l.getD i 0]] := by
  unfold enumD signsD
  rw [List.length_map]
  refine List.map_congr_left fun i hi => ?_
  rw [List.mem_range] at hi
  simp [List.getD_eq_getElem?_getD, hi]
theorem zipD_map {α β : Type} (l : List α) (m : List β) (f : α → Dt) (g : β → Dt) : zipD (l.map f) (m.map g) = (l.zip m).map fun q => .tup [f q.1, g q.2] := by
  unfold zipD
  rw [List.zipWith_map, List.zip]
  rw [List.map_zipWith]
theorem enumD_map {α : Type} (l : List α) (f : α → Dt) : enumD (l.map f) = l.zipIdx.map fun q => .tup [.int (q.2 : Int), f q.1] := by
  unfold enumD
  refine List.ext_getElem? fun i => ?_
  rw [List.getElem?_map, List.getElem?_map]
  by_cases h : i < l.length
  · rw [List.getElem?_range (by simpa using h)]
    simp [List.getD_eq_getElem?_getD, h]
  · rw [List.getElem?_eq_none (by simp; omega), List.getElem?_eq_none (by simp; omega)]; rfl
end Lt
namespace Lt
open PySem PySem.Spec PyProof.Rows L2
open PySem.Froz (sObj SD TxOk addTx tailTx add_x upd_const get_upd)
/-- the text of a value -/
def kS : Value → Str
  | .str k _ => k
  | _ => ⟨#[]⟩
structure SxD (P : Program) (w : World) (D : SD) (l : List Str) : Prop where
  ok : TxOk P w D l
  st : ∀ e ∈ D.1.toList, ∃ k t, e.2 = Value.str k t
  pm : (D.1.toList.map fun e => kS e.2).Perm l
  nd : l.Nodup
  ris : Ris D.2.2.place.toList
  led : w.params.followText "set-order" = true ∨ D.2.2.led = true
section
variable {P : Program} {w : World} {A : Around} {E : Value → Shared → Prop} {s : Shared}
theorem SxD.tail {ep : Nat} {em : Array (Int × Value)} {tb : SetTable} {wd : Bool} {l : List Str} (F : SxD P w (em, ep, tb) l) : SxD P w (tailTx ep em tb wd) l := by
  have g := Froz.tail_ok (wasDummy := wd) F.ok
  unfold tailTx at g ⊢
  by_cases c : (!wd && tb.tooFull) = true
  · rw [if_pos c] at g ⊢
    have pm := relayAll_perm tb em (SetTable.grown em.size)
    exact ⟨g, fun e he => F.st e (pm.mem_iff.mp he), (pm.map fun e => kS e.2).trans F.pm, F.nd, relayAll_ris .., F.led.imp id fun z => (relayAll_led ..).trans z⟩
  · rw [if_neg c] at g ⊢
    exact ⟨g, F.st, F.pm, F.nd, F.ris, F.led⟩
theorem SxD.add {D : SD} {l : List Str} {k : Str} (u : Tok) (F : SxD P w D l) (hk : k ∉ l) : SxD P w (addTx (hashStr w k) (.str k u) D) (k :: l) := by
  obtain ⟨em, ep, tb⟩ := D
  have pm := layNew_perm tb em (hashStr w k) (.str k u)
  have pc := (Array.toList_push .. ▸ pm : (layNew tb em (hashStr w k) (.str k u)).1.toList.Perm (em.toList ++ [(hashStr w k, Value.str k u)])).trans (List.perm_append_singleton _ _)
  have h2 : ∀ e ∈ (layNew tb em (hashStr w k) (.str k u)).1.toList, ∃ k t, e.2 = Value.str k t := fun e he => by
    rcases List.mem_cons.mp (pc.mem_iff.mp he) with z | z
    · exact ⟨k, u, by rw [z]⟩
    · exact F.st e z
  have h3 : ((layNew tb em (hashStr w k) (.str k u)).1.toList.map fun e => kS e.2).Perm (k :: l) := (pc.map fun (e : Int × Value) => kS e.2).trans (F.pm.cons k)
  have h5 := layNew_ris tb em (hashStr w k) (.str k u) F.ris
  have h6 := F.led.imp id fun z => (layNew_led tb em (hashStr w k) (.str k u)).trans z
  have hf := layNew_fits tb em (hashStr w k) (.str k u)
  refine SxD.tail ?_
  by_cases c : (layNew tb em (hashStr w k) (.str k u)).2.1.plain = true
  · rw [if_pos c]
    exact ⟨F.ok.push pm (SetTable.fits_plain_off hf), h2, h3, List.nodup_cons.mpr ⟨hk, F.nd⟩, h5, h6⟩
  · rw [if_neg c]
    exact ⟨F.ok.push pm hf, h2, h3, List.nodup_cons.mpr ⟨hk, F.nd⟩, h5, h6⟩
/-- the text stands there already -/
theorem add_met {a : Addr} {T : String} {D : SD} {l : List Str} {k : Str} {u : Tok} {Q : Bool → Shared → Prop} (ho : s.heap.get? a = some (sObj T D)) (F : TxOk P w D l) (hk : k ∈ l) (hb : l.length < scanBound)
    (h : Q false s) : wpAny (model P w) A (setAddHashed a (.str k u) (hashStr w k)) Q E s := by
  obtain ⟨em, ep, tb⟩ := D
  have hd : (sObj T (em, ep, tb)).data = .set em ep tb := rfl
  have hz : em.size = l.length := F.sz
  unfold setAddHashed setAddHashedIn
  refine wpAny_holding (wpAny_bind (wpAny_setState_of ho hd F.fit ?_))
  dsimp only
  rw [byScan_of rfl (show em.size < scanBound by omega) F.el]
  simp only [↓reduceIte]
  unfold setAddByScan
  refine wpAny_bind (wpAny_bind (wpAny_rule (wpAny_bind (wpAny_setScan_of (knd := strKind P w) (k := k) (Froz.is_str k u) ho hd F.fit F.el ?_))))
  cases hr : List.findIdx? (fun e => (strKind P w).is k e.2) em.toList with
  | some j => exact wpAny_pure (wpAny_pure h)
  | none =>
    obtain ⟨e, he, q⟩ := (F.mem k).mp hk
    have c := List.findIdx?_eq_none_iff.mp hr e he
    rw [q] at c
    cases c
/-- the members behind one add -/
def addK (k : Str) (l : List Str) : List Str := if k ∈ l then l else k :: l
theorem addK_len (k : Str) (l : List Str) : (addK k l).length ≤ l.length + 1 := by
  unfold addK
  split
  · omega
  · exact Nat.le_refl _
/-- the set at a -/
def SetS (P : Program) (w : World) (h : Heap) (a : Addr) (l : List Str) : Prop := ∃ D, h.get? a = some (sObj "set" D) ∧ SxD P w D l
theorem SetS.at {h h' : Heap} {a : Addr} {l : List Str} (R : SetS P w h a l) (k : ∀ o, h.get? a = some o → h'.get? a = some o) : SetS P w h' a l :=
  let ⟨D, e, F⟩ := R
  ⟨D, k _ e, F⟩
theorem setS_add {a : Addr} {l : List Str} {k : Str} {u : Tok} {Q : Bool → Shared → Prop} (R : SetS P w s.heap a l) (hb : l.length + 1 < scanBound)
    (h : ∀ h' b, Heap.SameBut a s.heap h' → SetS P w h' a (addK k l) → Q b { s with heap := h' }) : wpAny (model P w) A (setAddHashed a (.str k u) (hashStr w k)) Q E s := by
  obtain ⟨D, ho, F⟩ := R
  by_cases hk : k ∈ l
  · refine add_met ho F.ok hk (by omega) ?_
    have e : addK k l = l := if_pos hk
    exact h s.heap _ (Heap.SameBut.refl a s.heap) (e.symm ▸ ⟨D, ho, F⟩)
  · refine add_x ho F.ok hk hb ?_
    have e : addK k l = k :: l := if_neg hk
    refine h _ true (Heap.SameBut.update s.heap a _) (e.symm ▸ ⟨_, get_upd _ ho rfl, F.add u hk⟩)
theorem setS_new {h : Heap} {a : Addr} (ho : h.get? a = some { cls := .type "set", dict := none, data := .set #[] 0 (.fresh 0 0 (!w.params.followText "set-order")) }) : SetS P w h a [] :=
  ⟨(#[], 0, .fresh 0 0 (!w.params.followText "set-order")), ho, Froz.TxOk.nil rfl, (fun e he => by simp at he), .nil, .nil, List.Pairwise.nil, by
    show _ ∨ (!w.params.followText "set-order") = true
    cases w.params.followText "set-order"
    · exact .inr rfl
    · exact .inl rfl⟩
/-- the texts met, each once -/
def metK : List Str → List Str → List Str
  | [], l => l
  | k :: ks, l => metK ks (addK k l)
theorem drop_cons {xs : List Str} {i : Nat} {k : Str} (h : xs[i]? = some k) : xs.drop i = k :: xs.drop (i + 1) := by
  obtain ⟨h1, rfl⟩ := List.getElem?_eq_some_iff.mp h
  exact List.drop_eq_getElem_cons h1
theorem setS_loop {I : Addr} {fp wr : List Addr} {G : Array GenState → Array GenState → Prop} {n : Nat} {Pv : Nat → Value → Prop} {St : Nat → Shared → Prop} {R : Result → Shared → Prop}
    (W : WalksS P w A.in1 I fp wr G n Pv St) (S : Addr) (hSf : S ∉ fp) (ks : List Str) (hn : n = ks.length) (hval : ∀ i v, Pv i v → ∃ k t, ks[i]? = some k ∧ v = .str k t) :
    ∀ (m i : Nat) (l : List Str) (s : Shared), n - i = m → i ≤ n → St i s → SetS P w s.heap S l → l.length + (n - i) + 1 < scanBound →
      (∀ s', Moved (S :: wr) G s s' → SetS P w s'.heap S (metK (ks.drop i) l) → R (.ok (.ret .none)) s') →
      codeAny (model P w) A (.builtin "set.update.loop" ⟨[.ref S, .ref I], []⟩) R s := by
  have hw : S ∉ wr := fun z => hSf (W.sub _ z)
  have hsub : ∀ b ∈ wr, b ∈ S :: wr := fun b z => List.mem_cons_of_mem _ z
  intro m
  induction m with
  | zero =>
    intro i l s hm hi hst hS hb hR
    have hin : i = n := by omega
    subst hin
    refine codeAny_builtin F.entry_set_update_loop ?_
    rw [Around.under_plainId F.plain_set_update_loop _]
    show wpAny _ A.in1 (pyNext (.ref I) >>= _) _ _ s
    refine wpAny_bind (W.done s _ _ hst fun s' mv => ?_)
    show wpAny _ A.in1 (ret Value.none) _ _ s'
    have e : ks.drop i = [] := List.drop_eq_nil_of_le (by omega)
    rw [e] at hR
    exact wpAny_pure (hR s' (mv.mono hsub) (hS.at fun o z => mv.heap S o hw z))
  | succ m ih =>
    intro i l s hm hi hst hS hb hR
    have hlt : i < n := by omega
    refine codeAny_builtin F.entry_set_update_loop ?_
    rw [Around.under_plainId F.plain_set_update_loop _]
    show wpAny _ A.in1 (pyNext (.ref I) >>= _) _ _ s
    refine wpAny_bind (W.item i s _ _ hlt hst fun v s' hP hst' mv => ?_)
    obtain ⟨k, t, hz, rfl⟩ := hval i v hP
    have hS' : SetS P w s'.heap S l := hS.at fun o z => mv.heap S o hw z
    show wpAny _ A.in1 (holding [Value.str k t] (setAdd S (.str k t)) >>= _) _ _ s'
    unfold setAdd
    refine wpAny_bind (wpAny_holding (wpAny_holding (wpAny_bind ((strKind P w).pyHash (k := k) (strKind_is _ _ _ _) ?_))))
    refine setS_add (s := { s' with toks := s'.toks + 1 }) hS' (by omega) fun h' bb sb hS2 => ?_
    have hlen := addK_len k l
    refine wpAny_pure ⟨plainId_quiet F.plain_set_update_loop _, ih (i + 1) (addK k l) _ (by omega) hlt (W.frame _ s' _ _ hst' (Nat.le_succ _) fun b hb2 o z => ?_) hS2 (by omega) fun s'' mv2 hS3 => ?_⟩
    · exact (sb.2 b fun q : b = S => hSf (q ▸ hb2)).trans z
    · rw [drop_cons hz] at hR
      exact hR s'' (Moved.trans W.gtrans ((mv.mono hsub).then_heap (Nat.le_succ _) fun b o hb2 z => (sb.2 b fun q : b = S => hb2 (q ▸ List.mem_cons_self)).trans z) mv2) hS3
end
end Lt
namespace Lt
open PySem PySem.Spec PyProof.Rows L2
section
variable {P : Program} {w : World} {A : Around} {E : Value → Shared → Prop} {s : Shared}
/-- the empty set as it is laid -/
@[reducible] def rawS (w : World) : Obj := { cls := .type "set", dict := none, data := .set #[] 0 (.fresh 0 0 (!w.params.followText "set-order")) }
/-- the thing gives these texts to a new set -/
def Feeds (P : Program) (w : World) (s : Shared) (v : Value) (ks : List Str) : Prop := ∀ (A : Around) (E : Value → Shared → Prop) (id : String) (Q : Unit → Shared → Prop), A.handled = none →
  (∀ h' tk, SetS P w h' s.heap.objs.size (metK ks []) → (∀ b o, s.heap.get? b = some o → h'.get? b = some o) → Q () { s with heap := h', toks := tk }) →
  wpAny (model P w) A (Builtin.Frozenset.updateFrom id s.heap.objs.size v) Q E { s with heap := s.heap.push (rawS w) }
theorem feeds_end {I : Addr} {fp : List Addr} {n : Nat} {Pv : Nat → Value → Prop} {St : Nat → Shared → Prop} {o2 : Obj} {R : Unit → Shared → Prop} {ks : List Str} (hI : I = s.heap.objs.size + 1)
    (W : WalksS P w A.in1 I fp [I] (fun a b => b = a) n Pv St) (hSf : s.heap.objs.size ∉ fp) (hn : n = ks.length) (hval : ∀ i v, Pv i v → ∃ k t, ks[i]? = some k ∧ v = .str k t) (hb : ks.length + 1 < scanBound)
    (hst : St 0 { s with heap := (s.heap.push (rawS w)).push o2 })
    (h : ∀ h' tk, SetS P w h' s.heap.objs.size (metK ks []) → (∀ b o, s.heap.get? b = some o → h'.get? b = some o) → R () { s with heap := h', toks := tk }) :
    codeAny (model P w) A (.builtin "set.update.loop" ⟨[.ref s.heap.objs.size, .ref I], []⟩) (fun r s' => r = .ok (.ret .none) ∧ R () s') { s with heap := (s.heap.push (rawS w)).push o2 } := by
  refine setS_loop W s.heap.objs.size hSf ks hn hval n 0 [] _ (by omega) (Nat.zero_le _) hst (setS_new (Heap.get?_push_of_some _ (Heap.get?_push_size _ rfl))) (by simp only [List.length_nil]; omega) fun s' mv hS => ?_
  rw [mv.eq_with]
  refine ⟨rfl, h _ _ hS fun b o z => ?_⟩
  have hb0 : b < s.heap.objs.size := Heap.lt_size z
  refine mv.heap b o (fun q => ?_) (Heap.get?_push_of_some _ (Heap.get?_push_of_some _ z))
  rcases List.mem_cons.mp q with q | q
  · exact absurd hb0 (by rw [q]; exact Nat.lt_irrefl _)
  · have z := List.mem_singleton.mp q
    rw [hI] at z
    exact absurd hb0 (by rw [z]; exact Nat.not_lt_of_le (Nat.le_succ _))
theorem feeds_tup {l : Addr} {items : Array Value} {ks : List Str} (hl : s.heap.IsTuple l items) (hit : StrsAre items.toList ks) (hb : ks.length + 1 < scanBound) : Feeds P w s (.ref l) ks := by
  intro A E id Q hh h
  obtain ⟨ol, hol, hcl, nl, hdl⟩ := hl
  obtain ⟨ocls, odict, odata, oslots⟩ := ol
  simp only at hcl hdl
  subst hcl; subst hdl
  have hol' : (s.heap.push (rawS w)).get? l = some { cls := .type "tuple", dict := odict, data := .seq items nl, slots := oslots } := Heap.get?_push_of_some _ hol
  have q1 := F.sub_tuple_set
  have q2 := F.sub_tuple_frozenset
  have q3 : (Value.type "tuple" == Value.type "dict") = false := by decide
  have hl1 : (s.heap.push (rawS w)).IsTuple l items := ⟨_, hol', rfl, nl, rfl⟩
  have hls : l < s.heap.objs.size := Heap.lt_size hol
  have hz : (s.heap.push (rawS w)).objs.size = s.heap.objs.size + 1 := Heap.size_push ..
  have hnI : l ≠ (s.heap.push (rawS w)).objs.size := by rw [hz]; exact Nat.ne_of_lt (Nat.lt_succ_of_lt hls)
  have hSf : s.heap.objs.size ∉ [(s.heap.push (rawS w)).objs.size, l] := by
    simp only [hz, List.mem_cons, List.mem_singleton, List.not_mem_nil, or_false, not_or]
    exact ⟨Nat.ne_of_lt (Nat.lt_succ_self _), Nat.ne_of_gt hls⟩
  have hn : items.size = ks.length := by rw [← StrsAre.len_eq hit, Array.length_toList]
  unfold Builtin.Frozenset.updateFrom
  generalize hPI : pyIter = PI
  wp_walk
  subst hPI
  refine wpAny_pyIter_tuple hl1 (wpAny_bind (wpAny_runValue ?_))
  refine codeAny_mono (feeds_end (A := A) (R := Q) hz ((Walks.tuple (by simp [hh]) _ l hnI items).toS) hSf hn (fun i v hv => ?_) hb ⟨⟨_, Heap.get?_push_size _ rfl, rfl, rfl⟩, hl1.push _⟩ h) fun r s' hr => ?_
  · have hi : i < ks.length := by rw [← hn]; exact (Array.getElem?_eq_some_iff.mp hv).1
    obtain ⟨t, e⟩ := SS.strs_at hit i v (by rw [Array.getElem?_toList]; exact hv)
    exact ⟨ks[i], t, List.getElem?_eq_getElem hi, by rw [e, List.getD_eq_getElem?_getD, List.getElem?_eq_getElem hi] <;> rfl⟩
  · obtain ⟨rfl, hq⟩ := hr
    exact wpAny_pure hq
theorem feeds_lst {l : Addr} {items : Array Value} {ks : List Str} (hl : s.heap.IsList l items) (hit : StrsAre items.toList ks) (hb : ks.length + 1 < scanBound) : Feeds P w s (.ref l) ks := by
  intro A E id Q hh h
  obtain ⟨ol, hol, hcl, nl, hdl⟩ := hl
  obtain ⟨ocls, odict, odata, oslots⟩ := ol
  simp only at hcl hdl
  subst hcl; subst hdl
  have hol' : (s.heap.push (rawS w)).get? l = some { cls := .type "list", dict := odict, data := .seq items nl, slots := oslots } := Heap.get?_push_of_some _ hol
  have q1 := F.sub_list_set
  have q2 := F.sub_list_frozenset
  have q3 : (Value.type "list" == Value.type "dict") = false := by decide
  have hl1 : (s.heap.push (rawS w)).IsList l items := ⟨_, hol', rfl, nl, rfl⟩
  have hls : l < s.heap.objs.size := Heap.lt_size hol
  have hz : (s.heap.push (rawS w)).objs.size = s.heap.objs.size + 1 := Heap.size_push ..
  have hnI : l ≠ (s.heap.push (rawS w)).objs.size := by rw [hz]; exact Nat.ne_of_lt (Nat.lt_succ_of_lt hls)
  have hSf : s.heap.objs.size ∉ [(s.heap.push (rawS w)).objs.size, l] := by
    simp only [hz, List.mem_cons, List.mem_singleton, List.not_mem_nil, or_false, not_or]
    exact ⟨Nat.ne_of_lt (Nat.lt_succ_self _), Nat.ne_of_gt hls⟩
  have hn : items.size = ks.length := by rw [← StrsAre.len_eq hit, Array.length_toList]
  unfold Builtin.Frozenset.updateFrom
  generalize hPI : pyIter = PI
  wp_walk
  subst hPI
  refine wpAny_pyIter_list hl1 (wpAny_bind (wpAny_runValue ?_))
  refine codeAny_mono (feeds_end (A := A) (R := Q) hz ((Walks.list (by simp [hh]) _ l hnI items).toS) hSf hn (fun i v hv => ?_) hb ⟨⟨_, Heap.get?_push_size _ rfl, rfl, rfl⟩, hl1.push _⟩ h) fun r s' hr => ?_
  · have hi : i < ks.length := by rw [← hn]; exact (Array.getElem?_eq_some_iff.mp hv).1
    obtain ⟨t, e⟩ := SS.strs_at hit i v (by rw [Array.getElem?_toList]; exact hv)
    exact ⟨ks[i], t, List.getElem?_eq_getElem hi, by rw [e, List.getD_eq_getElem?_getD, List.getElem?_eq_getElem hi] <;> rfl⟩
  · obtain ⟨rfl, hq⟩ := hr
    exact wpAny_pure hq
theorem feeds_txt {x : Str} {t : Tok} (hb : x.cps.size + 1 < scanBound) : Feeds P w s (.str x t) (x.cps.toList.map fun c => ⟨#[c]⟩) := by
  intro A E id Q hh h
  have hz : (s.heap.push (rawS w)).objs.size = s.heap.objs.size + 1 := Heap.size_push ..
  unfold Builtin.Frozenset.updateFrom
  refine wpAny_bind (L2.Fz.anySet ?_)
  show wpAny _ _ (typeOf (.str x t) >>= _) _ _ _
  refine wpAny_bind (wpAny_typeOf (typeIs_str _ _ _) ?_)
  refine wp_if_neg (by decide) ?_
  refine wpAny_bind (wpAny_pyIter_str fun o St W st => wpAny_bind (wpAny_runValue ?_))
  refine codeAny_mono (feeds_end (A := A) (R := Q) hz (W A.in1 (by simp [hh])).toS ?_ (by simp) (fun i v hv => ?_) (by simpa using hb) st h) fun r s' hr => ?_
  · rw [hz]
    simp only [List.mem_cons, List.mem_singleton, List.not_mem_nil, or_false]
    exact Nat.ne_of_lt (Nat.lt_succ_self _)
  · obtain ⟨c, u, hc, rfl⟩ := hv
    exact ⟨⟨#[c]⟩, u, by rw [List.getElem?_map, Array.getElem?_toList, hc] <;> rfl, rfl⟩
  · obtain ⟨rfl, hq⟩ := hr
    exact wpAny_pure hq
theorem call_setS {v : Value} {ks : List Str} {Q : Value → Shared → Prop} (hh : A.handled = none) (F0 : Feeds P w s v ks)
    (h : ∀ h' tk, SetS P w h' s.heap.objs.size (metK ks []) → (∀ b o, s.heap.get? b = some o → h'.get? b = some o) → Q (.ref s.heap.objs.size) { s with heap := h', toks := tk }) :
    wpAny (model P w) A (call (.type "set") [v]) Q E s := by
  obtain ⟨cc, tl, hmro⟩ := F.called_set.mro
  have g1 := F.called_set.made
  have g2 := F.called_set.sub
  refine wpAny_call (codeAny_of_tree (by
    show wpAny _ _ (callAny (.type "set") _) _ _ _
    refine wpAny_pure ⟨Code.quiet_builtin _ (by decide +kernel), codeAny_builtin F.entry_type_call ?_⟩
    rw [Around.under_plain (weight_type_call_type "set" [v] []) rfl]
    have g3 := F.called_set.notType
    have g4 := F.called_set.canCreate
    have g5 := F.typeCall_set_1 v
    repeat (any_goals (first | assumption | wp_step))
    refine codeAny_mono (code_set_led1 v (E := E) (Q₁ := fun obj s₁ => obj = .ref s.heap.objs.size ∧ s₁ = { s with heap := s.heap.push (rawS w) }) ⟨rfl, rfl⟩) fun r s₁ hr => ?_
    cases r with
    | error e => exact hr
    | ok fl =>
      cases fl with
      | ret obj =>
        obtain ⟨rfl, rfl⟩ := hr
        have hS : (s.heap.push (rawS w)).get? s.heap.objs.size = some (rawS w) := Heap.get?_push_size _ rfl
        have hT : Shared.TypeIs { s with heap := s.heap.push (rawS w) } (.ref s.heap.objs.size) "set" := ⟨_, hS, rfl⟩
        have hli := F.called_set.init.lookup
        have hbi := F.called_set.init.bind (.ref s.heap.objs.size)
        repeat (any_goals (first | assumption | wp_step))
        refine codeAny_mono (codeAny_call_builtin (R := wants (fun r s₂ => r = .none ∧ ∃ h' tk, s₂ = { s with heap := h', toks := tk } ∧ SetS P w h' s.heap.objs.size (metK ks []) ∧
            (∀ b o, s.heap.get? b = some o → h'.get? b = some o)) E) F.called_set.init.plain F.entry_set_init (check_set_init_1 hT ?_)) fun r₂ s₂ hr₂ => ?_
        · unfold Builtin.«set.__init__» noKeywords
          generalize hUF : Builtin.Frozenset.updateFrom = UF
          wp_walk
          subst hUF
          refine F0 _ _ _ _ ?_ fun h' tk hS' hk => ?_
          · simp [hh]
          · exact wpAny_pure ⟨rfl, h', tk, rfl, hS', hk⟩
        · cases r₂ with
          | error e => exact hr₂
          | ok fl₂ =>
            cases fl₂ with
            | ret r =>
              obtain ⟨rfl, h', tk, rfl, hS', hk'⟩ := hr₂
              repeat (any_goals (first | assumption | wp_step))
              exact h _ _ hS' hk'
            | _ => exact hr₂.elim
      | _ => exact hr.elim))
end
end Lt
namespace Lt
open PySem PySem.Spec PyProof.Rows L2 Evl
open SX (S)
variable [ZI]
open PySem.W (EachIs dataLe)
theorem S_back (k : Str) : S k.cps.toList = k := by
  obtain ⟨c⟩ := k
  simp [S]
section
variable {P : Program} {w : World} {A : Around} {E : Value → Shared → Prop} {s : Shared}
theorem each_kS : ∀ {vs : List Value}, (∀ v ∈ vs, ∃ k t, v = Value.str k t) → EachIs (fun v (b : List Nat) => ∃ t, v = Value.str (S b) t) vs (vs.map fun v => (kS v).cps.toList)
  | [], _ => .nil
  | v :: vs, h => by
    obtain ⟨k, t, rfl⟩ := h v (by simp)
    refine .cons ⟨t, ?_⟩ (each_kS fun v hv => h v (by simp [hv]))
    show Value.str k t = Value.str (S k.cps.toList) t
    rw [S_back]
theorem sortedS {a : Addr} {l : List Str} {Q : Value → Shared → Prop} (R : SetS P w s.heap a l) (hh : A.handled = none) (hu : A.units + 10 < cLine) (hb : l.length < scanBound)
    (hQ : ∀ (s' : Shared) (p : Addr) (vs : Array Value) (c : Nat) (m : List (List Nat)), (∀ b o, s.heap.get? b = some o → s'.heap.get? b = some o) → s'.gens = s.gens → s'.os = s.os → s.heap.objs.size ≤ p → s'.heap.get? p = some (seqObj "list" vs c) → m.Perm (l.map fun k => k.cps.toList) →
      EachIs (fun v (b : List Nat) => ∃ t, v = Value.str (S b) t) vs.toList (m.mergeSort leT) → Q (.ref p) s') :
    wpAny (model P w) A (call (.builtin "sorted") [.ref a]) Q E s := by
  obtain ⟨D, ho, F0⟩ := R
  have hz : D.1.size = l.length := F0.ok.sz
  refine Calls.call_function_entry kind_sorted plain_sorted entry_sorted (args_sorted1 _) ?_
  unfold Builtin.«sorted»
  refine wpAny_bind (m := checkCount "sorted" 1 1 _) (wpAny_pure ?_)
  refine wpAny_bind (collect_set (A := A.in1) hh ⟨_, ho, rfl, rfl⟩ F0.ok.fit (by omega) F0.ris F0.led fun s1 vs k1 hz1 g1 o1 pm => ?_)
  have hv : ∀ v ∈ vs, ∃ k t, v = Value.str k t := fun v hv => by
    obtain ⟨e, he, q⟩ := List.mem_map.mp (pm.mem_iff.mp hv)
    obtain ⟨k, t, h1⟩ := F0.st e he
    exact ⟨k, t, q.symm.trans h1⟩
  have hp : (vs.map fun v => (kS v).cps.toList).Perm (l.map fun k => k.cps.toList) := by
    have q1 := pm.map fun v => (kS v).cps.toList
    have q2 := F0.pm.map fun k => k.cps.toList
    rw [List.map_map] at q1 q2
    exact q1.trans q2
  have hL : vs.length = l.length := by rw [pm.length_eq, List.length_map, Array.length_toList]; exact hz
  have hl2 : vs.length ≤ sizeLine := by rw [hL]; exact fits_of_scanBound hb
  refine wpAny_bind (wpAny_newList ?_ hl2)
  have hoL : (s1.heap.push (seqObj "list" vs.toArray 0)).get? s1.heap.objs.size = some (seqObj "list" vs.toArray 0) := Heap.get?_push_size _ rfl
  have e0 := each_kS hv
  refine wpAny_bind (wpAny_holding (PySem.W.list_sort_data (s := { s1 with heap := s1.heap.push (seqObj "list" vs.toArray 0) }) (bs := vs.map fun v => (kS v).cps.toList) (enc := fun b => PyData.str (S b)) hoL e0 (e0.mono fun v b ⟨t, q⟩ => ⟨[], by rw [q]; exact .str _ _, by simp⟩)
    (PySem.W.AllAlike.of fun b b' => by simp [PySem.W.alike]) (PySem.W.Sortable.others fun b => ⟨by simp, by simp⟩) (by rw [List.length_map]; exact hl2) (fun b _ => by show _ + 1 + (PyData.str (S b)).depth < _; simp [PyData.depth]; omega) fun out ho2 eo => ?_))
  have eo2 : EachIs (fun v (b : List Nat) => ∃ t, v = Value.str (S b) t) out ((vs.map fun v => (kS v).cps.toList).mergeSort leT) := by
    have e : dataLe false (fun b : List Nat => PyData.str (S b)) = leT := by
      rw [PySem.W.dataLe_str]
      funext x y
      rw [S_cps, S_cps]; rfl
    rw [e] at eo
    exact eo
  obtain ⟨c, hc⟩ := sortedHeap_at (vs := vs) (out := out.toArray) hoL
  refine wpAny_pure ⟨_, rfl, hQ _ s1.heap.objs.size out.toArray c _ (fun b u e => ?_) g1 o1 hz1 hc hp (by simpa using eo2)⟩
  have q := k1 b u e
  have hlt := Heap.lt_size q
  show (sortedHeap (s1.heap.push (seqObj "list" vs.toArray 0)) s1.heap.objs.size vs out.toArray).get? b = some u
  rw [sortedHeap_old (Nat.ne_of_lt hlt) (by rw [Heap.size_push]; exact Nat.lt_succ_of_lt hlt)]
  exact Heap.get?_push_of_some _ q
end
/-- the texts met, each once; sorted -/
def metT : List (List Nat) → List (List Nat) → List (List Nat)
  | [], l => l
  | k :: ks, l => metT ks (if k ∈ l then l else k :: l)
def setT (l : List (List Nat)) : List (List Nat) := sortT (metT l [])
theorem metT_mem {x : List Nat} : ∀ (ks l : List (List Nat)), x ∈ metT ks l ↔ x ∈ l ∨ x ∈ ks
  | [], l => by simp [metT]
  | k :: ks, l => by
    show x ∈ metT ks _ ↔ _
    rw [metT_mem ks]
    split
    · rename_i c
      simp only [List.mem_cons]
      exact ⟨fun z => z.elim .inl fun z => .inr (.inr z), fun z => z.elim .inl fun z => z.elim (fun z => .inl (z ▸ c)) .inr⟩
    · simp only [List.mem_cons, or_assoc, or_left_comm]
theorem metT_nodup : ∀ {ks l : List (List Nat)}, l.Nodup → (metT ks l).Nodup
  | [], _, h => h
  | k :: ks, l, h => by
    show (metT ks _).Nodup
    split
    · exact metT_nodup h
    · rename_i c
      exact metT_nodup (List.nodup_cons.mpr ⟨c, h⟩)
theorem setT_mem {l : List (List Nat)} {x : List Nat} : x ∈ setT l ↔ x ∈ l := by
  unfold setT sortT
  rw [List.mem_mergeSort, metT_mem]
  simp
theorem setT_nodup (l : List (List Nat)) : (setT l).Nodup := (List.mergeSort_perm ..).nodup_iff.mpr (metT_nodup List.nodup_nil)
theorem metT_len : ∀ (ks l : List (List Nat)), (metT ks l).length ≤ l.length + ks.length
  | [], l => Nat.le_refl _
  | k :: ks, l => by
    show (metT ks _).length ≤ l.length + (ks.length + 1)
    refine Nat.le_trans (metT_len ks _) ?_
    split
    · omega
    · rw [List.length_cons]; omega
theorem setT_len (l : List (List Nat)) : (setT l).length ≤ l.length := by
  unfold setT sortT
  rw [List.length_mergeSort]
  simpa using metT_len l []
theorem leT_trans (a b c : List Nat) (h : leT a b = true) (k : leT b c = true) : leT a c = true := decide_eq_true (List.le_trans (of_decide_eq_true h) (of_decide_eq_true k))
theorem leT_total (a b : List Nat) : (leT a b || leT b a) = true := by
  unfold leT
  rw [Bool.or_eq_true, decide_eq_true_eq, decide_eq_true_eq]
  exact List.le_total a b
theorem leT_anti {a b : List Nat} (h : leT a b = true) (k : leT b a = true) : a = b := List.le_antisymm (of_decide_eq_true h) (of_decide_eq_true k)
theorem sortT_perm {l m : List (List Nat)} (h : l.Perm m) : sortT l = sortT m :=
  List.Perm.eq_of_pairwise (le := fun a b => leT a b = true) (fun a b _ _ => leT_anti) (List.pairwise_mergeSort leT_trans leT_total l) (List.pairwise_mergeSort leT_trans leT_total m)
    ((List.mergeSort_perm ..).trans (h.trans (List.mergeSort_perm ..).symm))
theorem sortT_sorted (l : List (List Nat)) : (sortT l).Pairwise fun a b => leT a b = true := List.pairwise_mergeSort leT_trans leT_total l
theorem S_inj {a b : List Nat} (h : S a = S b) : a = b := by
  rw [← S_cps a, h, S_cps]
theorem metK_S : ∀ (ks l : List (List Nat)), metK (ks.map S) (l.map S) = (metT ks l).map S
  | [], l => rfl
  | k :: ks, l => by
    show metK (ks.map S) (addK (S k) (l.map S)) = (metT ks _).map S
    have e : addK (S k) (l.map S) = (if k ∈ l then l else k :: l).map S := by
      unfold addK
      by_cases c : k ∈ l
      · rw [if_pos c, if_pos (List.mem_map.mpr ⟨k, c, rfl⟩)]
      · rw [if_neg c, if_neg fun z => ?_]; rfl
        obtain ⟨x, hx, e⟩ := List.mem_map.mp z
        exact c (S_inj e ▸ hx)
    rw [e, metK_S]
def rSetZ (K : PySem.W.Frag) : V → Hp → VK → Prop := fun x H Q => ∃ ks : List (List Nat), ((∃ a, x = .ref a ∧ (SqL K H a (ks.map fun x => Tx x) ∨ SqT K H a (ks.map fun x => Tx x))) ∨ ∃ l : List Nat, x = Tx l ∧ ks = l.map fun c => [c]) ∧ ks.length ≤ 4000 ∧
  ∀ p, H p = none → Q (.ref p) (upd H p (.lst ((setT ks).map fun x => Tx x)))
theorem strsAreX {its : List Value} {ks : List (List Nat)} (r : Vals (ks.map fun x => Tx x) its) : StrsAre its (ks.map S) := by
  refine L2.strsAre_of ?_
  rw [List.map_map]
  exact r
theorem vals_each : ∀ {ks : List (List Nat)} {us : List Value}, EachIs (fun v (b : List Nat) => ∃ t, v = Value.str (S b) t) us ks → Vals (ks.map fun x => Tx x) us
  | _, _, .nil => .nil
  | _, _, .cons h t => .cons h (vals_each t)
def tSetS (K : PySem.W.Frag) (ta : TE) : TE := fun σ H Q => ta σ H fun x H1 => rSetZ K x H1 Q
theorem pe_sortset {X : Cx} {K : PySem.W.Frag} {a : Expr} {ta : TE} {p p2 q pos : Pos} (hK : X.K = K) (hc : X.calm = true) (hu : X.A.units + 64 < cLine) (hg : Gl X "sorted") (hm : X.mg "sorted" = none) (hg2 : Gl X "set") (hm2 : X.mg "set" = none) (ha : PE X a ta)
    (na : starEach [a] X.env = (false, eval a X.env) :: starEach [] X.env := by rfl) : PE X (.Call (.Name "sorted" p) [.Call (.Name "set" p2) [a] [] q] [] pos) (tSetS K ta) := by
  subst hK
  refine ⟨fun pins s σ H Q I h => ?_⟩
  refine Call_ (ld_blt (u := .builtin "sorted") I hg hm (by decide +kernel) ?_)
  refine PyProof.Rows.callWith_builtin1 (PyProof.Rows.args_cons ?_ rfl) rfl rfl
  refine Call_ (ld_blt I hg2 hm2 PyProof.Rows.boot_set ?_)
  refine PyProof.Rows.callWith_type1 (PyProof.Rows.args_cons (thn (ha.run pins s σ H _ I h) fun v s1 ⟨x, H1, I1, r1, q1⟩ => PyProof.Rows.args_nil ?_) na) na rfl
  obtain ⟨ks, hx, hl, q1⟩ := q1
  have hsb : (ks.map S).length + 1 < scanBound := by rw [List.length_map]; unfold scanBound; omega
  have hF : Feeds X.prog X.w s1 v (ks.map S) := by
    rcases hx with ⟨b, rfl, hq⟩ | ⟨l, rfl, rfl⟩
    · cases r1
      rcases hq with hq | hq
      · obtain ⟨its, r, pl, hz⟩ := I1.list hq
        exact feeds_lst pl.isList (by simpa using strsAreX r) hsb
      · obtain ⟨its, r, pl, hz⟩ := I1.tuple hq
        exact feeds_tup pl (by simpa using strsAreX r) hsb
    · obtain ⟨t, rfl⟩ := r1
      have e : (l.map fun c => [c]).map S = (S l).cps.toList.map fun c => (⟨#[c]⟩ : Str) := by
        rw [S_cps, List.map_map]; rfl
      rw [e] at hsb ⊢
      exact feeds_txt (by simpa using hsb)
  refine call_setS (I1.ok.hd hc) hF fun h' tk R k => PyProof.Rows.args_nil ?_
  have e0 : metK (ks.map S) [] = (metT ks []).map S := metK_S ks []
  rw [e0] at R
  have I2 : Inv X pins σ H1 { s1 with heap := h', toks := tk } := I1.kept k
  have hl2 : (metT ks []).length ≤ 4000 := Nat.le_trans (metT_len ks []) (by simpa using hl)
  refine sortedS (s := { s1 with heap := h', toks := tk }) R (I2.ok.hd hc) (by omega) (by rw [List.length_map]; unfold scanBound; omega) fun s' p vs c m kk g o hp ho pm hv => ?_
  have em : m.mergeSort leT = setT ks := by
    refine sortT_perm (pm.trans ?_)
    rw [List.map_map]
    have : (metT ks []).map ((fun k : Str => k.cps.toList) ∘ S) = metT ks [] := by
      rw [show ((fun k : Str => k.cps.toList) ∘ S) = id from funext fun x => S_cps x, List.map_id]
    rw [this]
  rw [em] at hv
  have hr := vals_each hv
  have hlen : ((setT ks).map fun x => Tx x).length ≤ sizeLine := by
    rw [List.length_map, sizeLine_eq]
    have := setT_len ks
    omega
  have hn : H1 p = none := I2.hok.fresh hp
  have hle : s1.heap.objs.size ≤ h'.objs.size := by
    obtain ⟨D, e, _⟩ := R
    exact Nat.le_of_lt (Heap.lt_size e)
  have hp1 : s1.heap.objs.size ≤ p := Nat.le_trans hle hp
  have J : Inv X pins σ (upd H1 p (.lst ((setT ks).map fun x => Tx x))) { s1 with heap := s'.heap, gens := s'.gens, drawn := s'.drawn, toks := s'.toks } :=
    I1.call (ch := []) (Un.laid (fun b u z => kk b u (k b u z)) hp1 hn) (I1.hok.laid (fun b u z => kk b u (k b u z)) hp1 ⟨hlen, vs.toList, c, hr, by simpa using ho⟩) (by rw [g]; exact I1.bare) (fun _ z => nomatch z)
  have e : s' = { s1 with heap := s'.heap, gens := s'.gens, drawn := s'.drawn, toks := s'.toks } := by
    cases s'
    cases s1
    cases o
    rfl
  rw [e]
  exact ⟨.ref p, _, J, rfl, q1 p hn⟩
end Lt
namespace Lt
open PySem PySem.Spec PyProof.Rows L2 Evl
open SX (S)
variable [ZI]
def zSetS (x : Dt) (R : DQ) : Prop := match x with
  | .str l => l.length ≤ 4000 ∧ R true (.lst ((setT (l.map fun c => [c])).map .str))
  | .lst ds => ∃ ks : List (List Nat), ds = ks.map .str ∧ ks.length ≤ 4000 ∧ R true (.lst ((setT ks).map .str))
  | .tup ds => ∃ ks : List (List Nat), ds = ks.map .str ∧ ks.length ≤ 4000 ∧ R true (.lst ((setT ks).map .str))
  | _ => False
theorem z_setS {K : PySem.W.Frag} : UnZ (rSetZ K) zSetS := by
  intro c L H x dx Q R h wx hr k
  have fin : ∀ (ks : List (List Nat)), R true (.lst ((setT ks).map .str)) → ∀ p, H p = none → Q (.ref p) (upd H p (.lst ((setT ks).map fun x => Tx x))) := fun ks hr p hp =>
    k _ _ _ _ hr (h.newL (FrAll.strs _) hp (Ex.new hp) upd_same)
  unfold zSetS at hr
  split at hr
  · rename_i l
    obtain ⟨hl, hr⟩ := hr
    obtain rfl := wx.scal_str h
    exact ⟨l.map fun c => [c], .inr ⟨l, rfl, rfl⟩, by rw [List.length_map]; exact hl, fin _ hr⟩
  · obtain ⟨ks, rfl, hl, hr⟩ := hr
    obtain ⟨p, xs, rfl, g1, g2⟩ := wx.lst h
    rw [FrAll.strs_inv g2] at g1
    exact ⟨ks, .inl ⟨p, rfl, .inl (SqL.of g1)⟩, hl, fin _ hr⟩
  · obtain ⟨ks, rfl, hl, hr⟩ := hr
    obtain ⟨p, xs, rfl, _, g1, g2⟩ := wx.tup h
    rw [FrAll.strs_inv g2] at g1
    exact ⟨ks, .inl ⟨p, rfl, .inr (.inl g1)⟩, hl, fin _ hr⟩
  · exact hr.elim
theorem ce_setS {c : Ctx} {K : PySem.W.Frag} {ta : TE} {oa : Opd} (ha : CO c ta oa) : CE c (tSetS K ta) (pUn zSetS oa) := un_core (ta := ta) ha z_setS
theorem zSetS_s {l : List Nat} {R : DQ} : zSetS (.str l) R = (l.length ≤ 4000 ∧ R true (.lst ((setT (l.map fun c => [c])).map .str))) := rfl
theorem strs_inj : ∀ {a b : List (List Nat)}, a.map Dt.str = b.map .str → a = b
  | [], [], _ => rfl
  | [], _ :: _, h => by cases h
  | _ :: _, [], h => by cases h
  | x :: a, y :: b, h => by
    rw [List.map_cons, List.map_cons] at h
    injection h with h1 h2
    injection h1 with h1
    rw [h1, strs_inj h2]
theorem zSetS_l {ks : List (List Nat)} {R : DQ} : zSetS (.lst (ks.map .str)) R = (ks.length ≤ 4000 ∧ R true (.lst ((setT ks).map .str))) := propext ⟨fun ⟨k2, e, h⟩ => by rw [strs_inj e]; exact h, fun h => ⟨ks, rfl, h⟩⟩
theorem zSetS_t {ks : List (List Nat)} {R : DQ} : zSetS (.tup (ks.map .str)) R = (ks.length ≤ 4000 ∧ R true (.lst ((setT ks).map .str))) := propext ⟨fun ⟨k2, e, h⟩ => by rw [strs_inj e]; exact h, fun h => ⟨ks, rfl, h⟩⟩
theorem zSetS_t2 {ks ls : List (List Nat)} {R : DQ} : zSetS (.tup (ks.map .str ++ ls.map .str)) R = (ks.length + ls.length ≤ 4000 ∧ R true (.lst ((setT (ks ++ ls)).map .str))) := by
  rw [← List.map_append, zSetS_t, List.length_append]
def rCntZ (K : PySem.W.Frag) : V → List V → Hp → VK → Prop := fun x xs H Q => ∃ (p : Addr) (ys : List (List Nat)) (z : List Nat), x = .ref p ∧ xs = [Tx z] ∧ SqT K H p (ys.map fun x => Tx x) ∧ Q (.int (ys.count z : Nat)) H
theorem mt_cntZ {X : Cx} : MtR X "tuple.count" (rCntZ X.K) := by
  intro pins s σ H x xs v us Q I rx rxs h
  obtain ⟨p, ys, z, rfl, rfl, hs, q⟩ := h
  cases rx
  obtain ⟨u, rfl, ru⟩ := rxs.one
  obtain ⟨t, rfl⟩ := ru
  obtain ⟨its, rv, pl, hlen⟩ := I.tuple hs
  obtain ⟨⟨cls, dd, dt, sl⟩, ho, hc, n, hd⟩ := pl
  simp only at hc hd
  subst hc hd
  have fl : (ys.map fun x => Tx x).all flatV = true := by rw [List.all_map]; exact List.all_eq_true.mpr fun _ _ => rfl
  have ec : ∀ {ys : List (List Nat)} {us : List Value}, Vals (ys.map fun x => Tx x) us → us.countP (eqU (.str (S z))) = ys.count z := by
    intro ys
    induction ys with
    | nil => intro us r; cases r; rfl
    | cons y ys ih =>
      intro us r
      cases r with
      | cons h1 h2 =>
        obtain ⟨t1, rfl⟩ := h1
        rw [List.countP_cons, List.count_cons, ih h2]
        congr 1
        show (if (S y == S z) = true then 1 else 0) = _
        by_cases e : y = z
        · subst e; simp
        · rw [if_neg (by rw [beq_iff_eq]; exact fun q => e (S_inj q)), if_neg (by rw [beq_iff_eq]; exact e)]
  refine call_meets PySem.F.slot_tuple_count ⟨_, ho, rfl⟩ PySem.F.entry_tuple_count (PySem.F.args_tuple_count_2 _ _)
    (SeqAt.tuple_countAt p its.toArray n dd sl (.str (S z) t) (eqU (.str (S z)))) ⟨ho, fun w hw => mem_eqAt (x := .str (S z)) ⟨t, rfl⟩ rfl rv fl w (by simpa using hw), ?_⟩
  refine ⟨.int (ys.count z : Nat), H, I.tok _, ⟨s.toks, ?_⟩, q⟩
  have := ec rv
  show Value.int ((its.toArray.toList.countP (eqU (.str (S z))) : Nat) : Int) s.toks = _
  rw [show its.toArray.toList = its from rfl, this]
theorem mt_cntK {X : Cx} {K : PySem.W.Frag} (hK : X.K = K) : MtR X "tuple.count" (rCntZ K) := hK ▸ mt_cntZ
/-- a method of a tuple whose object is known -/
def tTM (r : V → List V → Hp → VK → Prop) (to : TE) (t : TA) : TE := fun σ H Q => to σ H fun x H1 => (∃ (p : Addr) (o : Obj) (xs : List V), x = .ref p ∧ H1 p = some (.frz o (.tup xs)) ∧ o.dict = none) ∧ t σ H1 fun vs H2 => r x vs H2 Q
theorem pe_tm {X : Cx} {o e : Expr} {es : List Expr} {name : Str} {apos cpos : Pos} {id : String} {r : V → List V → Hp → VK → Prop} {to : TE} {t : TA} (slot : Slot "tuple" name id) (hty : typeOf (.builtin id) = pure (.type "method_descriptor")) (hm : MtR X id r) (ho : PE X o to) (ha : PA X (e :: es) t)
    (hbase : attributeBase o name X.env (eval o X.env) = eval o X.env := by rfl)
    (hfew : ((backTo cpos (starEach (e :: es) X.env)).all (fun x => !x.1) && (backToKw cpos (keywordEach [] X.env)).all (fun x => x.1.isSome)
      && decide ((e :: es).length + ([] : List Keyword).length + (if ([] : List Keyword).isEmpty then 0 else 1) < 30)) = true := by rfl)
    (hline : (apos.endLine == cpos.line) = true := by rfl) (hs : starEach (e :: es) X.env = (false, eval e X.env) :: starEach es X.env := by rfl) (hplain : (backTo cpos (starEach es X.env)).any (·.1) = false := by rfl) :
    PE X (.Call (.Attribute o name apos) (e :: es) [] cpos) (tTM r to t) := by
  refine ⟨fun pins s σ H Q I h => ?_⟩
  refine wpAny_Call_method_late hbase hfew hline rfl (thn (ho.run pins s σ H _ I h) fun v s1 ⟨x, H1, I1, r1, ty, q1⟩ => ?_)
  obtain ⟨p, ob, xs, rfl, hk, hd⟩ := ty
  cases r1
  obtain ⟨g1, _, its, _, o2, g2, g3, _⟩ := I1.hok p _ hk
  rw [g1] at g2
  cases g2
  refine ⟨"tuple", id, PySem.F.plainAttrs_tuple, slot, hty, ⟨ob, g1, g3⟩, fun a e => ?_, ?_⟩
  · cases e
    exact ⟨ob, g1, hd⟩
  · have hA := ha.run cpos pins s1 σ H1 _ I1 q1
    rw [hs] at hA ⊢
    refine Calls.callWith_builtin (by show (false || (backTo cpos (starEach es X.env)).any (·.1)) = false; rw [hplain] <;> rfl) (Calls.evalArgs_plain ?_)
    exact thn hA fun us s2 ⟨vs, H2, I2, r2, q2⟩ => hm pins s2 σ H2 (.ref p) vs (.ref p) us Q I2 rfl r2 q2
def zCnt (x y : Dt) (R : DQ) : Prop := match x, y with
  | .tpk ds, .str a => ∃ ks : List (List Nat), ds = ks.map .str ∧ R false (.int (ks.count a : Nat))
  | _, _ => False
theorem z_cnt {K : PySem.W.Frag} : OpZ (fun x y H Q => rCntZ K x [y] H Q) zCnt := by
  intro c L H x y dx dy Q R h wx wy hr k
  unfold zCnt at hr
  split at hr
  · rename_i a
    obtain ⟨ks, rfl, hr⟩ := hr
    obtain ⟨p, xs, o, rfl, _, g1, _, g2⟩ := wx.tpk h
    rw [FrAll.strs_inv g2] at g1
    obtain rfl := wy.scal_str h
    exact ⟨p, ks, a, rfl, rfl, .inl (.inr ⟨o, g1⟩), k _ _ _ _ hr (h.int _)⟩
  · exact hr.elim
theorem zCnt_t {ks : List (List Nat)} {a : List Nat} {R : DQ} : zCnt (.tpk (ks.map .str)) (.str a) R = R false (.int (ks.count a : Nat)) := propext ⟨fun ⟨k2, e, h⟩ => by rw [strs_inj e]; exact h, fun h => ⟨ks, rfl, h⟩⟩
@[reducible] def pCnt (oa ob : Opd) : PTE := fun s Q => pOpd oa s fun ga s1 => match ga s1 with
  | some (.tpk _) => pOpd ob s1 fun gb s2 => match ga s2, gb s2 with
    | some x, some y => zCnt x y fun b d => Q b d s2
    | _, _ => False
  | _ => False
theorem ce_cnt {c : Ctx} {K : PySem.W.Frag} {ta tb : TE} {oa ob : Opd} (ha : CO c ta oa) (hb : CO c tb ob) : CE c (tTM (rCntZ K) ta (tCons tb tNil)) (pCnt oa ob) := fun F s σ H Q R h hp k =>
  ha F s σ H _ _ h hp fun ga s1 v1 H1 F1 q1 h1 w1 => by
    split at q1
    · rename_i ds ex
      obtain ⟨p, xs, o, rfl, _, g1, g2, _⟩ := (w1 s1 [] H1 _ ex h1).tpk h1.2
      refine ⟨⟨p, o, xs, rfl, g1, g2⟩, hb _ s1 σ H1 _ _ h1 q1 fun gb s2 v2 H2 F2 q2 h2 w2 => ?_⟩
      split at q2
      · rename_i x y ex ey
        refine z_cnt (K := K) c _ H2 _ v2 x y Q _ h2.2 (w1 s2 F2 H2 x ex h2) (w2 s2 [] H2 y ey h2) q2 fun b d v H' rd hl => k _ _ _ _ _ rd ?_
        exact Rel.res (F2 := F2 ++ F1) h2.1 (by rw [List.append_assoc]; exact hl)
      · exact q2.elim
    · exact q1.elim
end Lt
namespace Lt
open PySem PySem.Spec PyProof.Rows L2 Evl
open SX (S)
variable [ZI]
open PySem.W (EachIs dataLe)
section
variable {P : Program} {w : World} {A : Around} {E : Value → Shared → Prop} {s : Shared}
def Gath (P : Program) (w : World) (s : Shared) (v : Value) (l : List (List Nat)) : Prop := ∀ (A : Around) (E : Value → Shared → Prop) (Q : List Value → Shared → Prop), A.handled = none →
  (∀ s' vs, (∀ b o, s.heap.get? b = some o → s'.heap.get? b = some o) → s'.gens = s.gens → s'.os = s.os → Vals (l.map fun x => Tx x) vs → Q vs s') → wpAny (model P w) A (collect v) Q E s
theorem each_vals : ∀ {ks : List (List Nat)} {us : List Value}, Vals (ks.map fun x => Tx x) us → EachIs (fun v (b : List Nat) => ∃ t, v = Value.str (S b) t) us ks
  | [], _, r => by cases r; exact .nil
  | k :: ks, _, r => by
    cases r with
    | cons h t => exact .cons h (each_vals t)
theorem sortedG {v : Value} {l : List (List Nat)} {Q : Value → Shared → Prop} (R : Gath P w s v l) (hh : A.handled = none) (hu : A.units + 10 < cLine) (hb : l.length ≤ sizeLine)
    (hQ : ∀ (h1 : Heap) (s' : Shared) (p : Addr) (vs : Array Value) (c : Nat), (∀ b o, s.heap.get? b = some o → h1.get? b = some o) → h1.objs.size ≤ p → (∀ b o, h1.get? b = some o → s'.heap.get? b = some o) → s'.gens = s.gens → s'.os = s.os → s'.heap.get? p = some (seqObj "list" vs c) →
      Vals ((sortT l).map fun x => Tx x) vs.toList → Q (.ref p) s') :
    wpAny (model P w) A (call (.builtin "sorted") [v]) Q E s := by
  refine Calls.call_function_entry kind_sorted plain_sorted entry_sorted (args_sorted1 _) ?_
  unfold Builtin.«sorted»
  refine wpAny_bind (m := checkCount "sorted" 1 1 _) (wpAny_pure (wpAny_bind (R A.in1 _ _ hh fun s1 vs k1 g1 o1 hv => ?_)))
  have hL : vs.length = l.length := by rw [← hv.length, List.length_map]
  refine wpAny_bind (wpAny_newList ?_ (by rw [hL]; exact hb))
  have hoL : (s1.heap.push (seqObj "list" vs.toArray 0)).get? s1.heap.objs.size = some (seqObj "list" vs.toArray 0) := Heap.get?_push_size _ rfl
  have e0 := each_vals hv
  refine wpAny_bind (wpAny_holding (PySem.W.list_sort_data (s := { s1 with heap := s1.heap.push (seqObj "list" vs.toArray 0) }) (bs := l) (enc := fun b => PyData.str (S b)) hoL e0 (e0.mono fun v b ⟨t, q⟩ => ⟨[], by rw [q]; exact .str _ _, by simp⟩)
    (PySem.W.AllAlike.of fun b b' => by simp [PySem.W.alike]) (PySem.W.Sortable.others fun b => ⟨by simp, by simp⟩) hb (fun b _ => by show _ + 1 + (PyData.str (S b)).depth < _; simp [PyData.depth]; omega) fun out ho2 eo => ?_))
  have eo2 : Vals ((sortT l).map fun x => Tx x) out := by
    have e : dataLe false (fun b : List Nat => PyData.str (S b)) = leT := by
      rw [PySem.W.dataLe_str]
      funext x y
      rw [S_cps, S_cps]; rfl
    rw [e] at eo
    exact vals_each eo
  obtain ⟨c, hc⟩ := sortedHeap_at (vs := vs) (out := out.toArray) hoL
  refine wpAny_pure ⟨_, rfl, hQ s1.heap _ s1.heap.objs.size out.toArray c k1 (Nat.le_refl _) (fun b u q => ?_) g1 o1 hc (by simpa using eo2)⟩
  have hlt := Heap.lt_size q
  show (sortedHeap (s1.heap.push (seqObj "list" vs.toArray 0)) s1.heap.objs.size vs out.toArray).get? b = some u
  rw [sortedHeap_old (Nat.ne_of_lt hlt) (by rw [Heap.size_push]; exact Nat.lt_succ_of_lt hlt)]
  exact Heap.get?_push_of_some _ q
theorem gath_seq {a : Addr} {T : String} {o : Obj} {items : Array Value} {n : Nat} {l : List (List Nat)} (hT : T = "list" ∨ T = "tuple") (ho : s.heap.get? a = some o) (hc : o.cls = .type T) (hd : o.data = .seq items n) (hv : Vals (l.map fun x => Tx x) items.toList) (hl : l.length ≤ sizeLine) : Gath P w s (.ref a) l :=
  fun A E Q hh h => wpAny_collect_seq a hT ho hc hd (fun h' k => h _ _ k rfl rfl hv) (by
    have := hv.length
    rw [List.length_map] at this
    have e2 : items.toList.length = items.size := Array.length_toList
    rw [← e2, ← this]; exact hl)
theorem gath_str {l : List Nat} {t : Tok} (hl : l.length ≤ sizeLine) : Gath P w s (.str (S l) t) (l.map fun c => [c]) :=
  fun A E Q hh h => wpAny_collect_str hh (S l) t (fun s' acc k g d o it => h _ _ k g o (by
    obtain ⟨h1, h2⟩ := it
    rw [S_size] at h1
    have key : ∀ (m : List Nat) (us : List Value), us.length = m.length → (∀ (i : Nat) (v : Value), us[i]? = some v → ∃ c u, m[i]? = some c ∧ v = .str ⟨#[c]⟩ u) → Vals ((m.map fun c => [c]).map fun x => Tx x) us := by
      intro m
      induction m with
      | nil => intro us hz _; rw [List.eq_nil_of_length_eq_zero hz]; exact .nil
      | cons c m ih =>
        intro us hz hv
        cases us with
        | nil => cases hz
        | cons u us =>
          obtain ⟨c', t', h1, rfl⟩ := hv 0 u rfl
          cases h1
          exact .cons ⟨t', rfl⟩ (ih us (by simpa using hz) fun i v hi => hv (i + 1) v hi)
    refine key l acc.toList (by rw [Array.length_toList]; exact h1) fun i v hi => ?_
    rw [Array.getElem?_toList] at hi
    obtain ⟨c, u, q1, q2⟩ := h2 i v hi
    exact ⟨c, u, by rw [← Array.getElem?_toList, S_cps] at q1; exact q1, q2⟩)) (by rw [S_size]; exact hl)
end
def rSrtT (K : PySem.W.Frag) : List V → Hp → VK → Prop := fun vs H Q => ∃ (x : V) (ks : List (List Nat)), vs = [x] ∧ ((∃ a, x = .ref a ∧ (SqL K H a (ks.map fun x => Tx x) ∨ SqT K H a (ks.map fun x => Tx x))) ∨ ∃ l : List Nat, x = Tx l ∧ ks = l.map fun c => [c]) ∧ ks.length ≤ sizeLine ∧
  ∀ p, H p = none → Q (.ref p) (upd H p (.lst ((sortT ks).map fun x => Tx x)))
theorem cr_srtT {X : Cx} (hc : X.calm = true) (hu : X.A.units + 64 < cLine) : CallR X (.builtin "sorted") (rSrtT X.K) := by
  intro pins s σ H vs us Q I r h
  obtain ⟨x, ks, rfl, hx, hl, q⟩ := h
  obtain ⟨v, rfl, rx⟩ := vals1 r
  have hG : Gath X.prog X.w s v ks := by
    rcases hx with ⟨a, rfl, hq⟩ | ⟨l, rfl, rfl⟩
    · cases rx
      rcases hq with hq | hq
      · obtain ⟨its, r, pl, hz⟩ := I.list hq
        obtain ⟨o, ho, hcl, n, hd⟩ := pl.isList
        exact gath_seq (.inl rfl) ho hcl hd (by simpa using r) hl
      · obtain ⟨its, r, pl, hz⟩ := I.tuple hq
        obtain ⟨o, ho, hcl, n, hd⟩ := pl
        exact gath_seq (.inr rfl) ho hcl hd (by simpa using r) hl
    · obtain ⟨t, rfl⟩ := rx
      exact gath_str (by simpa using hl)
  refine sortedG hG (I.ok.hd hc) (by omega) hl fun h1 s' p out c k hp k2 g o ho hv => ?_
  have I1 : Inv X pins σ H { s with heap := h1 } := I.kept (t' := s.toks) k
  have hn : H p = none := I1.hok.fresh hp
  have hlen : ((sortT ks).map fun x => Tx x).length ≤ sizeLine := by
    unfold sortT
    rw [List.length_map, List.length_mergeSort]; exact hl
  have J : Inv X pins σ (upd H p (.lst ((sortT ks).map fun x => Tx x))) { ({ s with heap := h1 } : Shared) with heap := s'.heap, gens := s'.gens, drawn := s'.drawn, toks := s'.toks } :=
    Inv.call (s := { s with heap := h1 }) (ch := []) I1 (Un.laid k2 hp hn) (I1.hok.laid k2 hp ⟨hlen, out.toList, c, hv, by simpa using ho⟩) (by rw [g]; exact I1.bare) (fun _ z => nomatch z)
  have e : s' = { s with heap := s'.heap, gens := s'.gens, drawn := s'.drawn, toks := s'.toks } := by
    cases s'
    cases s
    cases o
    rfl
  rw [e]
  exact ⟨.ref p, _, J, rfl, q p hn⟩
/-- sorted(x): a list of any data of one kind; texts in a tuple; a text's signs -/
theorem cr_sortA {X : Cx} {K : PySem.W.Frag} (hK : X.K = K) (hc : X.calm = true) (hu : X.A.units + 64 < cLine) : CallR X (.builtin "sorted") (fun xs H Q => rSortZ K xs H Q ∨ rSrtT K xs H Q) := hK ▸ (cr_sortZ hu).or (cr_srtT hc hu)
def zSortA (x : Dt) (R : DQ) : Prop := match fgt x with
  | .lst ds => zSort (.lst ds) R
  | .tup ds => ∃ ks : List (List Nat), ds = ks.map .str ∧ ks.length ≤ 16777216 ∧ R true (.lst ((sortT ks).map .str))
  | .str l => l.length ≤ 16777216 ∧ R true (.lst ((sortT (l.map fun c => [c])).map .str))
  | _ => False
theorem z_sortA0 {K : PySem.W.Frag} : UnZ (fun x H Q => rSortZ K [x] H Q ∨ rSrtT K [x] H Q) (fun x R => match x with
  | .lst ds => zSort (.lst ds) R
  | .tup ds => ∃ ks : List (List Nat), ds = ks.map .str ∧ ks.length ≤ 16777216 ∧ R true (.lst ((sortT ks).map .str))
  | .str l => l.length ≤ 16777216 ∧ R true (.lst ((sortT (l.map fun c => [c])).map .str))
  | _ => False) := by
  intro c L H x dx Q R h wx hr k
  have fin : ∀ (ks : List (List Nat)), R true (.lst ((sortT ks).map .str)) → ∀ p, H p = none → Q (.ref p) (upd H p (.lst ((sortT ks).map fun x => Tx x))) := fun ks hr p hp =>
    k _ _ _ _ hr (h.newL (FrAll.strs _) hp (Ex.new hp) upd_same)
  split at hr
  · exact .inl (z_sort c L H x _ Q R h wx hr k)
  · obtain ⟨ks, rfl, hl, hr⟩ := hr
    obtain ⟨p, xs, rfl, _, g1, g2⟩ := wx.tup h
    rw [FrAll.strs_inv g2] at g1
    exact .inr ⟨_, ks, rfl, .inl ⟨p, rfl, .inr (.inl g1)⟩, by rw [sizeLine_eq]; exact hl, fin _ hr⟩
  · rename_i l
    obtain ⟨hl, hr⟩ := hr
    obtain rfl := wx.scal_str h
    exact .inr ⟨_, l.map fun c => [c], rfl, .inr ⟨l, rfl, rfl⟩, by rw [List.length_map, sizeLine_eq]; exact hl, fin _ hr⟩
  · exact hr.elim
theorem z_sortA {K : PySem.W.Frag} : UnZ (fun x H Q => rSortZ K [x] H Q ∨ rSrtT K [x] H Q) zSortA := z_sortA0.fgt
theorem zSortA_t {ks : List (List Nat)} {R : DQ} : zSortA (.tup (ks.map .str)) R = (ks.length ≤ 16777216 ∧ R true (.lst ((sortT ks).map .str))) := propext ⟨fun ⟨k2, e, h⟩ => by rw [strs_inj e]; exact h, fun h => ⟨ks, rfl, h⟩⟩
theorem zSortA_k {ks : List (List Nat)} {R : DQ} : zSortA (.tpk (ks.map .str)) R = (ks.length ≤ 16777216 ∧ R true (.lst ((sortT ks).map .str))) := zSortA_t
theorem zSortA_t2 {ks ls : List (List Nat)} {R : DQ} : zSortA (.tup (ks.map .str ++ ls.map .str)) R = (ks.length + ls.length ≤ 16777216 ∧ R true (.lst ((sortT (ks ++ ls)).map .str))) := by
  rw [← List.map_append, zSortA_t, List.length_append]
theorem zSortA_s {l : List Nat} {R : DQ} : zSortA (.str l) R = (l.length ≤ 16777216 ∧ R true (.lst ((sortT (l.map fun c => [c])).map .str))) := rfl
theorem zs_strs {l : List (List Nat)} {R : DQ} (h : ∀ x ∈ l, okT x) (k : R true (.lst ((sortT l).map .str))) : zSortA (.lst (l.map .str)) R := zs_strs0 h k
end Lt
namespace Lt
open PySem PySem.Spec PyProof.Rows L2 Evl
open SX (S)
variable [ZI]
abbrev AL := List (List Nat × Dt)
def kyD (p : List Nat × Dt) : Key := .inr (S p.1)
/-- a dict, keyed by texts -/
def dicD (al : AL) : Dt := .dic (al.map kyD) (al.map (·.2))
def lkD (al : AL) (k : List Nat) : Option Dt := (al.find? fun p => decide (p.1 = k)).map (·.2)
def putD (al : AL) (k : List Nat) (d : Dt) : AL := if (al.any fun p => decide (p.1 = k)) = true then al.map (fun p => if p.1 = k then (p.1, d) else p) else al ++ [(k, d)]
section
variable {A : Addr → Prop} {H : Hp}
theorem S_eq {a b : List Nat} : ((.inr (S a) : Key) = .inr (S b)) ↔ a = b := ⟨fun h => by injection h with h; exact S_inj h, fun h => h ▸ rfl⟩
end
def zDGet (x y d3 : Dt) (R : DQ) : Prop := match y with
  | .str k => ∃ al, x = dicD al ∧ R false ((lkD al k).getD d3)
  | _ => False
def isDic (x : Dt) : Prop := ∃ al, x = dicD al
theorem dicD_inj {a b : AL} (h : dicD a = dicD b) : a = b := by
  unfold dicD at h
  injection h with h1 h2
  induction a generalizing b with
  | nil => cases b with
    | nil => rfl
    | cons _ _ => cases h1
  | cons p a ih => cases b with
    | nil => cases h1
    | cons q b =>
      rw [List.map_cons, List.map_cons] at h1 h2
      injection h1 with e1 e2
      injection h2 with e3 e4
      rw [ih e2 e4]
      congr 1
      exact Prod.ext (S_eq.mp e1) e3
theorem isDic_d {al : AL} : isDic (dicD al) = True := propext ⟨fun _ => trivial, fun _ => ⟨al, rfl⟩⟩
theorem zDGet_d {al : AL} {k : List Nat} {d : Dt} {R : DQ} : zDGet (dicD al) (.str k) d R = R false ((lkD al k).getD d) := propext ⟨fun ⟨a2, e, h⟩ => by rw [dicD_inj e]; exact h, fun h => ⟨al, rfl, h⟩⟩
def zDPut (x : Dt) (k : List Nat) (d : Dt) (R : Dt → Prop) : Prop := ∃ al, x = dicD al ∧ al.length < 16777216 ∧ R (dicD (putD al k d))
theorem zDPut_d {al : AL} {k : List Nat} {d : Dt} {R : Dt → Prop} : zDPut (dicD al) k d R = (al.length < 16777216 ∧ R (dicD (putD al k d))) := propext ⟨fun ⟨a2, e, h⟩ => by rw [dicD_inj e]; exact h, fun h => ⟨al, rfl, h⟩⟩
end Lt
namespace Lt
open PySem PySem.Spec PyProof.Rows L2 Evl
open SX (S)
variable [ZI]
open PySem.W (EachIs AllAlike Sortable dataLe)
def pairT (q : List Nat × Dt) : Dt := .tup [.str q.1, q.2]
end Lt
namespace Lt
open PySem PySem.Spec PyProof.Rows L2 Evl
open Sem (wp)
abbrev IsZipM (h : Heap) (z TI TO : Addr) (mk : Value) (fl : Bool) : Prop :=
  h.get? z = some { cls := .type "zip", dict := none, data := .fields #[mk, .bool fl, .bool false, .ref TI, .ref TO], slots := #[] }
def MkOk (mk : Value) : Prop := mk = .none ∨ ∃ n : Nat, mk = rawInt n
section
variable {prog : Program} {w : World} {A : Around} {E : Value → Shared → Prop} {s : Shared} {z TI TO i1 i2 : Addr} {fp1 fp2 : List Addr} {n1 n2 i : Nat} {P1 P2 : Nat → Value → Prop} {St1 St2 : Nat → Heap → Prop} {a1 a2 : Value}
/-- zip's state, whatever it has handed out -/
def ZSt (z TI TO i1 i2 : Addr) (St1 St2 : Nat → Heap → Prop) (i : Nat) (h : Heap) : Prop := ∃ mk fl, MkOk mk ∧ IsZipM h z TI TO mk fl ∧ IsTupOf2 h TI (.ref i1) (.ref i2) ∧ (∃ a1 a2, IsTupOf2 h TO a1 a2) ∧ St1 i h ∧ St2 i h
theorem ZSt.ty (st : ZSt z TI TO i1 i2 St1 St2 i s.heap) : s.TypeIs (.ref z) "zip" := by
  obtain ⟨mk, fl, hm, hz, _⟩ := st
  exact ⟨_, hz, rfl⟩
end
end Lt
namespace Lt
open PySem PySem.Spec PyProof.Rows L2 Evl
open SX (S)
variable [ZI]
open PySem.W (EachIs dataLe)
def zDGk (x y : Dt) (R : DQ) : Prop := match y with
  | .str k => ∃ al d, x = dicD al ∧ lkD al k = some d ∧ R false d
  | _ => False
theorem zDGk_d {al : AL} {k : List Nat} {R : DQ} : zDGk (dicD al) (.str k) R = ∃ d, lkD al k = some d ∧ R false d := propext ⟨fun ⟨a2, d, e, h⟩ => by rw [dicD_inj e]; exact ⟨d, h⟩, fun ⟨d, h⟩ => ⟨al, d, rfl, h⟩⟩
def zDInk (neg : Bool) (y x : Dt) (R : DQ) : Prop := match y with
  | .str k => ∃ al, x = dicD al ∧ R false (.bl (neg ^^ (lkD al k).isSome))
  | _ => False
theorem zDInk_d {al : AL} {k : List Nat} {R : DQ} : zDInk false (.str k) (dicD al) R = R false (.bl (lkD al k).isSome) := propext ⟨fun ⟨a2, e, h⟩ => by rw [dicD_inj e]; simpa using h, fun h => ⟨al, rfl, by simpa using h⟩⟩
theorem zDInk_n {al : AL} {k : List Nat} {R : DQ} : zDInk true (.str k) (dicD al) R = R false (.bl (!(lkD al k).isSome)) := propext ⟨fun ⟨a2, e, h⟩ => by rw [dicD_inj e]; simpa using h, fun h => ⟨al, rfl, by simpa using h⟩⟩
def zSrtDk (x : Dt) (R : DQ) : Prop := ∃ al, x = dicD al ∧ al.length ≤ 16777216 ∧ R true (.lst ((sortT (al.map (·.1))).map .str))
theorem zSrtDk_d {al : AL} {R : DQ} : zSrtDk (dicD al) R = (al.length ≤ 16777216 ∧ R true (.lst ((sortT (al.map (·.1))).map .str))) := propext ⟨fun ⟨a2, e, h⟩ => by rw [dicD_inj e]; exact h, fun h => ⟨al, rfl, h⟩⟩
def dropD (al : AL) (k : List Nat) : AL := al.filter fun p => !decide (p.1 = k)
end Lt
namespace Lt
open PySem PySem.Spec PyProof.Rows L2 Evl
open SX (S)
variable [ZI]
theorem S_list (l : List Nat) : (S l).cps.toList = l := by unfold S; simp
def zStw (x y : Dt) (R : DQ) : Prop := match x, y with
  | .str a, .str b => R false (.bl (decide (b <+: a)))
  | _, _ => False
def zEnw (x y : Dt) (R : DQ) : Prop := match x, y with
  | .str a, .str b => R false (.bl (decide (b <:+ a)))
  | _, _ => False
/-- a method of a text, of one argument -/
@[reducible] def pStr1 (z : Dt → Dt → DQ → Prop) (pa : PTE) (ob : Opd) : PTE := fun s Q => pa s fun _ d s1 => match d with
  | .str a => pOpd ob s1 fun gb s2 => match gb s2 with
    | some y => z (.str a) y fun b d => Q b d s2
    | none => False
  | _ => False
theorem ce_str1 {c : Ctx} {K : PySem.W.Frag} {r : V → List V → Hp → VK → Prop} {z : Dt → Dt → DQ → Prop} {ta tb : TE} {pa : PTE} {ob : Opd} (hz : OpZ (fun x y H Q => r x [y] H Q) z) (ha : CE c ta pa) (hb : CO c tb ob) : CE c (tBM K "str" r ta (tCons tb tNil)) (pStr1 z pa ob) := fun F s σ H Q R h hp k =>
  ha F s σ H _ _ h hp fun b d s1 v H1 q h1 => by
    split at q
    · rename_i a
      refine ⟨by rw [str_of h1]; exact ty_str, hb _ s1 σ H1 _ _ h1.mkfz q fun gb s2 v2 H2 F2 q2 h2 w2 => ?_⟩
      split at q2
      · rename_i y ey
        have hx : Wk (s2.zip σ ++ (F2 ++ ((.fz (.str a), some v) :: F))) (.str a) v := .inl (List.mem_append_right _ (List.mem_append_right _ (List.mem_cons_self ..)))
        refine hz c _ H2 v v2 (.str a) y Q _ h2.2 hx (w2 s2 [] H2 y ey h2) q2 fun b d v' H' rd hl => k _ _ _ _ _ rd ?_
        exact Rel.res (F2 := F2 ++ [(.fz (.str a), some v)]) h2.1 (by rw [List.append_assoc]; exact hl)
      · exact q2.elim
    · exact q.elim
theorem zStw_s {a b : List Nat} {R : DQ} : zStw (.str a) (.str b) R = R false (.bl (decide (b <+: a))) := rfl
theorem zEnw_s {a b : List Nat} {R : DQ} : zEnw (.str a) (.str b) R = R false (.bl (decide (b <:+ a))) := rfl
def zMax (x y : Dt) (R : DQ) : Prop := match x, y with
  | .int i, .int j => R false (.int (max i j))
  | _, _ => False
theorem zMax_i {i j : Int} {R : DQ} : zMax (.int i) (.int j) R = R false (.int (max i j)) := rfl
end Lt
namespace Lt
open PySem PySem.Spec PyProof.Rows L2 Evl
open SX (S)
variable [ZI]
/-- the same data: a dict locked or not -/
def Sm (H H' : Hp) : Prop := ∀ a o, H a = some o → H' a = some o ∨ ∃ od ws, (o = .dK ws ∧ H' a = some (.frz od (.dK ws))) ∨ (o = .frz od (.dK ws) ∧ H' a = some (.dK ws))
theorem Sm.same {H H' : Hp} (h : Sm H H') {a : Addr} {o : HO} (e : H a = some o) (n1 : ∀ ws, o ≠ .dK ws) (n2 : ∀ od ws, o ≠ .frz od (.dK ws)) : H' a = some o := by
  rcases h a o e with q | ⟨od, ws, ⟨q, _⟩ | ⟨q, _⟩⟩
  · exact q
  · exact absurd q (n1 ws)
  · exact absurd q (n2 od ws)
theorem Sm.tup {H H' : Hp} (h : Sm H H') {a : Addr} {xs : List V} (e : Rd H a (.tup xs)) : Rd H' a (.tup xs) := by
  rcases e with e | ⟨o, e⟩
  · exact .inl (h.same e (fun _ z => by cases z) fun _ _ z => by cases z)
  · exact .inr ⟨o, h.same e (fun _ z => by cases z) fun _ _ z => by cases z⟩
theorem Sm.dic {H H' : Hp} (h : Sm H H') {a : Addr} {ws : List (Key × V)} (e : Rd H a (.dK ws)) : Rd H' a (.dK ws) := by
  rcases e with e | ⟨o, e⟩
  · rcases h a _ e with q | ⟨od, ws', ⟨q, z⟩ | ⟨q, z⟩⟩
    · exact .inl q
    · cases q; exact .inr ⟨od, z⟩
    · cases q
  · rcases h a _ e with q | ⟨od, ws', ⟨q, z⟩ | ⟨q, z⟩⟩
    · exact .inr ⟨o, q⟩
    · cases q
    · cases q; exact .inl z
/-- where the slot holds a dict, it may be locked for a while -/
def atD (k : Nat) (s : PSt) (R : AL → Prop) : Prop := match s[k]? with
  | some (.fz x) => ∃ al, x = dicD al ∧ R al
  | _ => False
def pLockD (k : Nat) (pk : AL → PTS) : PTS := fun P s => atD k s fun al => pk al P s
/-- for .. in d.items(), for k in d -/
def pForD (ks : Bool) (gp : PTG) (ps : PTS) : AL → PTS := fun al P s => ForGoal gp ps P (if ks = true then al.map fun p => .str p.1 else al.map pairT) s
end Lt
namespace Lt
open PySem PySem.Spec PyProof.Rows L2 Evl
open SX (S)
variable [ZI]
/-- the loop's word -/
theorem forD_go {k : Nat} {ks : Bool} {gp : PTG} {ps : PTS} {P : PEnds} {s : PSt} {al : AL} (e : s[k]? = some (.fz (dicD al))) (h : ForGoal gp ps P (if ks = true then al.map fun p => .str p.1 else al.map pairT) s) : pLockD k (pForD ks gp ps) P s := by
  unfold pLockD atD
  rw [e]
  exact ⟨al, rfl, h⟩
def zInAdd (x y : Dt) (R : DQ) : Prop := match x, y with
  | .int i, .int j => R false (.int (i + j))
  | _, _ => False
def zInSub (x y : Dt) (R : DQ) : Prop := match x, y with
  | .int i, .int j => R false (.int (i - j))
  | _, _ => False
theorem zInAdd_i {i j : Int} {R : DQ} : zInAdd (.int i) (.int j) R = R false (.int (i + j)) := rfl
theorem zInSub_i {i j : Int} {R : DQ} : zInSub (.int i) (.int j) R = R false (.int (i - j)) := rfl
end Lt
namespace Lt
open PySem PySem.Spec PyProof.Rows L2 Evl
open SX (S)
variable [ZI]
def repT (n : Nat) (a : List Nat) : List Nat := (List.replicate n a).flatten
theorem rep_fold (a : List Nat) : ∀ (n : Nat) (c : Array Nat), ((List.replicate n (S a).cps).foldl (· ++ ·) c).toList = c.toList ++ repT n a
  | 0, c => by simp [repT]
  | n + 1, c => by
    rw [List.replicate_succ, List.foldl_cons, rep_fold a n]
    unfold repT
    rw [List.replicate_succ, List.flatten_cons]
    simp [S]
theorem mul_S (a : List Nat) (n : Nat) : Txt.mul (S a) (n : Int) = S (repT n a) := by
  unfold Txt.mul
  by_cases h : n = 0
  · subst h; simp [repT, S, Str.empty]
  · rw [if_neg (by omega)]
    split
    · rename_i h2
      have h3 : n = 1 ∨ a = [] := by
        simp at h2
        rcases h2 with h2 | h2
        · left; omega
        · right
          have : (S a).cps.size = 0 := h2
          have e := S_cps a
          have : (S a).cps.toList.length = 0 := by simpa using this
          rw [e] at this
          exact List.eq_nil_of_length_eq_zero this
      rcases h3 with rfl | rfl
      · simp [repT]
      · simp [repT]
    · have e := rep_fold a n #[]
      show (⟨(List.replicate (n : Int).toNat (S a).cps).foldl (· ++ ·) #[]⟩ : Str) = S (repT n a)
      rw [Int.toNat_natCast]
      have e2 : (S (repT n a)).cps = (List.replicate n (S a).cps).foldl (· ++ ·) #[] := by
        apply Array.toList_inj.mp
        rw [e, S_cps]; simp
      rw [← e2]
def rRepS : R2 := fun x y H Q => ∃ (a : List Nat) (n : Nat), x = Tx a ∧ y = .int (n : Int) ∧ a.length ≤ 1000 ∧ n ≤ 1000 ∧ Q (Tx (repT n a)) H
theorem op_repS {X : Cx} : OpR X (binaryOp .Mult) rRepS := by
  intro pins s σ H x y v u Q I rx ry h
  obtain ⟨a, n, rfl, rfl, ha, hn, q⟩ := h
  obtain ⟨t, rfl⟩ := rx
  obtain ⟨t2, rfl⟩ := ry
  have hl : (S a).length = a.length := by
    show (S a).cps.size = _
    rw [← Array.length_toList, S_cps]
  refine SB.mul ⟨?_, ?_, ?_⟩ fun t' k => ?_
  · rw [decide_eq_false (by omega), decide_eq_false (by omega)]; rfl
  · intro h1 _
    rw [hl]
    have : (1000 : Int) ≤ (2 ^ 63 - 1) / (n : Int) := by
      rw [Int.le_ediv_iff_mul_le (by omega)]
      omega
    omega
  · intro _ _
    rw [hl, Int.toNat_natCast]
    have : a.length * n ≤ 1000 * 1000 := Nat.mul_le_mul ha hn
    have h4 := sizeLine_eq
    first
      | exact decide_eq_false (by omega)
      | (unfold PySem.Builtin.tooLong; simp; omega)
      | (simp [PySem.tooLong]; omega)
  · rw [mul_S]
    exact ⟨Tx (repT n a), H, I.tok k, ⟨_, rfl⟩, q⟩
def rMulZ : R2 := fun x y H Q => rI CMul (fun i j => .int (i * j)) x y H Q ∨ rRepS x y H Q
theorem op_mulZ {X : Cx} : OpR X (binaryOp .Mult) rMulZ := OpR.orr op_mul op_repS
def zMulZ (x y : Dt) (R : DQ) : Prop := match x, y with
  | .int i, .int j => CMul i j ∧ R false (.int (i * j))
  | .str a, .int i => a.length ≤ 1000 ∧ 0 ≤ i ∧ i ≤ 1000 ∧ R false (.str (repT i.toNat a))
  | _, _ => False
theorem z_mulZ : OpZ rMulZ zMulZ := by
  intro c L H x y dx dy Q R h wx wy hr k
  unfold zMulZ at hr
  split at hr
  · rw [wx.scal_int h, wy.scal_int h]
    exact .inl ⟨_, _, rfl, rfl, hr.1, k _ _ _ _ hr.2 (h.int _)⟩
  · rename_i a i
    obtain ⟨h1, h2, h3, h4⟩ := hr
    rw [wx.scal_str h, wy.scal_int h]
    exact .inr ⟨a, i.toNat, rfl, by rw [Int.toNat_of_nonneg h2], h1, by omega, k _ _ _ _ h4 (h.str _)⟩
  · exact hr.elim
theorem zMulZ_i {i j : Int} {R : DQ} : zMulZ (.int i) (.int j) R = (CMul i j ∧ R false (.int (i * j))) := rfl
theorem zMulZ_s {a : List Nat} {i : Int} {R : DQ} : zMulZ (.str a) (.int i) R = (a.length ≤ 1000 ∧ 0 ≤ i ∧ i ≤ 1000 ∧ R false (.str (repT i.toNat a))) := rfl
theorem repT_0 (a : List Nat) : repT 0 a = [] := rfl
theorem repT_1 (a : List Nat) : repT 1 a = a := by simp [repT]
/-- int(..) -/
def zIntT (x : Dt) (R : DQ) : Prop := match x with
  | .int i => R false (.int i)
  | .bl b => R false (.int (if b then 1 else 0))
  | _ => False
theorem zIntT_i {i : Int} {R : DQ} : zIntT (.int i) R = R false (.int i) := rfl
theorem zIntT_t {R : DQ} : zIntT (.bl true) R = R false (.int 1) := rfl
theorem zIntT_f {R : DQ} : zIntT (.bl false) R = R false (.int 0) := rfl
end Lt
namespace Lt
open PySem PySem.Spec PyProof.Rows L2 Evl
open SX (S)
variable [ZI]
def dPr (q : Nat × Nat) : Dt := .tup [.int q.1, .int q.2]
theorem cmpOks_prs {n : Nat} (ts : List (Nat × Nat)) : cmpOks (n + 2) (ts.map dPr) = true := cmpOks_of fun d hd => by
  obtain ⟨q, _, rfl⟩ := List.mem_map.mp hd
  rfl
def freeM (row held : List Nat) : List Nat := (List.range row.length).filter fun i => decide (row.getD i 0 ∉ held)
def nameM (l : List Nat) : List Nat := if l.reverse < l then l.reverse else l
def subM (row : List Nat) (h t : Nat) : List Nat := (row.drop h).take (t + 1 - h)
def cutsM (row : List Nat) (sp : List Nat) : List (List Nat) := (sp.zip sp.tail).map fun q => nameM (subM row q.1 q.2)
def headM (row held : List Nat) : List Nat := match freeM row held with
  | [] => row
  | s :: _ => row.take (s + 1)
def tailM (row held : List Nat) : List Nat := match (freeM row held).getLast? with
  | none => []
  | some s => row.drop s
def midM (row held : List Nat) : List (List Nat) := sortT (cutsM row (freeM row held))
def thrD (row held : List Nat) : Dt := .tup [.str (headM row held), .tpk ((midM row held).map .str), .str (tailM row held)]
theorem freeM_lt {row held : List Nat} {i : Nat} (h : i ∈ freeM row held) : i < row.length ∧ row.getD i 0 ∉ held := by
  unfold freeM at h
  rw [List.mem_filter, List.mem_range] at h
  exact ⟨h.1, by simpa using h.2⟩
theorem subM_mem {row : List Nat} {h t c : Nat} (hc : c ∈ subM row h t) : c ∈ row := List.mem_of_mem_drop (List.mem_of_mem_take hc)
theorem nameM_mem {l : List Nat} {c : Nat} (hc : c ∈ nameM l) : c ∈ l := by
  unfold nameM at hc
  split at hc
  · simpa using hc
  · exact hc
theorem cutsM_mem {row sp x : List Nat} (h : x ∈ cutsM row sp) : ∀ c ∈ x, c ∈ row := by
  unfold cutsM at h
  obtain ⟨q, _, rfl⟩ := List.mem_map.mp h
  intro c hc
  exact subM_mem (nameM_mem hc)
def freeP (row held : List Nat) (i : Nat) : List Nat := (List.range i).filter fun j => decide (row.getD j 0 ∉ held)
theorem freeP_more (row held : List Nat) (i : Nat) : freeP row held (i + 1) = freeP row held i ++ if row.getD i 0 ∈ held then [] else [i] := by
  unfold freeP
  rw [List.range_succ, List.filter_append]
  by_cases c : row.getD i 0 ∈ held
  · rw [if_pos c]; simp [c]; simpa using c
  · rw [if_neg c]; simp; simpa using c
theorem freeP_lt {row held : List Nat} {i j : Nat} (h : j ∈ freeP row held i) : j < i := by
  unfold freeP at h
  simpa using (List.mem_filter.mp h).1
theorem cutsM_more (row sp : List Nat) (i : Nat) : cutsM row (sp ++ [i]) = cutsM row sp ++ match sp.getLast? with
  | none => []
  | some l => [nameM (subM row l i)] := by
  unfold cutsM
  have key : ∀ sp : List Nat, (sp ++ [i]).zip (sp ++ [i]).tail = sp.zip sp.tail ++ match sp.getLast? with | none => [] | some l => [(l, i)] := by
    intro sp
    induction sp with
    | nil => rfl
    | cons a sp ih =>
      cases sp with
      | nil => rfl
      | cons b sp =>
        have := ih
        simp only [List.cons_append, List.tail_cons, List.zip_cons_cons] at this ⊢
        rw [this]
        rfl
  rw [key, List.map_append]
  congr 1
  split <;> simp_all
theorem take_snoc {row : List Nat} {i c : Nat} (h : row[i]? = some c) : row.take i ++ [c] = row.take (i + 1) := (take_more h).symm
theorem sortT_len (l : List (List Nat)) : (sortT l).length = l.length := List.length_mergeSort l
theorem freeM_len (row held : List Nat) : (freeM row held).length ≤ row.length := by
  unfold freeM
  exact Nat.le_trans (List.length_filter_le _ _) (by simp)
theorem midM_len (row held : List Nat) : (midM row held).length ≤ row.length := by
  unfold midM cutsM
  rw [sortT_len, List.length_map, List.length_zip]
  have := freeM_len row held
  omega
end Lt
namespace Lt
open PySem PySem.Spec PyProof.Rows L2 Evl
open SX (S)
variable [ZI]
theorem turnsIn_len (row held : List Nat) (h j : Nat) : (turnsIn row held h j).length ≤ j := by
  unfold turnsIn
  split
  · simp
  · rw [List.length_map]
    exact Nat.le_trans (List.length_filter_le _ _) (by simp)
theorem turnsM_len (row held : List Nat) : (turnsM row held).length ≤ row.length * row.length := by
  have key : ∀ i, i ≤ row.length → ((List.range i).flatMap (turnsAt row held)).length ≤ i * row.length := by
    intro i
    induction i with
    | zero => intro _; simp
    | succ i ih =>
      intro hi
      rw [turns_more, List.length_append, Nat.succ_mul]
      have h1 := ih (by omega)
      have h2 := turnsIn_len row held i (row.length - (i + 1))
      show _ + (turnsIn row held i (row.length - (i + 1))).length ≤ _
      omega
  exact key _ (Nat.le_refl _)
/-- by turns at signs that are not held -/
inductive Stir (held : List Nat) (row : List Nat) : List Nat → Prop
  | refl : Stir held row row
  | step {r : List Nat} {h t : Nat} : Stir held row r → (h, t) ∈ turnsM r held → Stir held row (turnM r h t)
theorem Stir.len {held row r : List Nat} (s : Stir held row r) : r.length = row.length := by
  induction s with
  | refl => rfl
  | step s hm ih =>
    obtain ⟨h1, h2, _, _⟩ := turnsM_mem hm
    dsimp only at h1 h2
    rw [turnM_len (by omega) h2, ih]
theorem Stir.mem {held row r : List Nat} (s : Stir held row r) {c : Nat} (hc : c ∈ r) : c ∈ row := by
  induction s with
  | refl => exact hc
  | step s hm ih =>
    obtain ⟨h1, h2, _, _⟩ := turnsM_mem hm
    dsimp only at h1 h2
    exact ih (turnM_mem (by omega) hc)
def fapM (a b : List (List Nat)) : Option (List Nat) := (setT (a ++ b)).find? fun t => decide (a.count t ≠ b.count t)
def fapD (a b : List (List Nat)) : Dt := match fapM a b with
  | none => .non
  | some t => .tup [.str t, .int (a.count t : Nat), .int (b.count t : Nat)]
def apD (one other held : List Nat) : Dt :=
  if headM one held ≠ headM other held then .tup [.str [104, 101, 97, 100], .str (headM one held), .str (headM other held)]
  else if tailM one held ≠ tailM other held then .tup [.str [116, 97, 105, 108], .str (tailM one held), .str (tailM other held)]
  else match fapM (midM one held) (midM other held) with
    | none => .non
    | some t => .tup [.str [116, 104, 114, 101, 97, 100], .str t, .int ((midM one held).count t : Nat), .int ((midM other held).count t : Nat)]
theorem find_step {l : List (List Nat)} {p : List Nat → Bool} {i : Nat} {x : List Nat} (hx : l[i]? = some x) (h : (l.take i).find? p = none) (hp : p x = true) : l.find? p = some x := by
  obtain ⟨hi, rfl⟩ := List.getElem?_eq_some_iff.mp hx
  have e : l.find? p = (l.take i ++ l.drop i).find? p := by rw [List.take_append_drop]
  rw [e, List.find?_append, h, List.drop_eq_getElem_cons hi, List.find?_cons, hp]
  rfl
theorem find_more {l : List (List Nat)} {p : List Nat → Bool} {i : Nat} {x : List Nat} (hx : l[i]? = some x) (h : (l.take i).find? p = none) (hp : p x = false) : (l.take (i + 1)).find? p = none := by
  rw [List.take_add_one, hx, List.find?_append, h]
  simp [hp]
theorem fapM_perm {a b : List (List Nat)} (h : a.Perm b) : fapM a b = none := by
  unfold fapM
  rw [List.find?_eq_none]
  intro x _
  simp [h.count_eq x]
theorem apD_same {one other held : List Nat} (h : thrD one held = thrD other held) : apD one other held = .non := by
  unfold thrD at h
  injection h with h
  injection h with h1 h
  injection h with h2 h
  injection h with h3 h
  injection h1 with h1
  injection h2 with h2
  injection h3 with h3
  unfold apD
  rw [if_neg (by simp [h1]), if_neg (by simp [h3]), fapM_perm (by rw [strs_inj h2])]
end Lt
namespace Lt
open PySem PySem.Spec PyProof.Rows L2 Evl
open SX (S)
variable [ZI]
/-- what stands since the last free sign; the cuts -/
abbrev ScS := Option (List Nat) × List (List Nat)
def scF (held : List Nat) (s : ScS) (c : Nat) : ScS :=
  if c ∈ held then (s.1.map (· ++ [c]), s.2) else (some [c], match s.1 with | none => s.2 | some m => s.2 ++ [m ++ [c]])
def scan (held l : List Nat) : ScS := l.foldl (scF held) (none, [])
theorem scF_pre (held : List Nat) (cs : List (List Nat)) (n : Option (List Nat)) (ds : List (List Nat)) (c : Nat) : scF held (n, cs ++ ds) c = ((scF held (n, ds) c).1, cs ++ (scF held (n, ds) c).2) := by
  unfold scF
  by_cases h : c ∈ held
  · rw [if_pos h, if_pos h]
  · rw [if_neg h, if_neg h]
    cases n <;> simp
theorem sc_pre (held : List Nat) (cs : List (List Nat)) : ∀ (l : List Nat) (n : Option (List Nat)) (ds : List (List Nat)), l.foldl (scF held) (n, cs ++ ds) = ((l.foldl (scF held) (n, ds)).1, cs ++ (l.foldl (scF held) (n, ds)).2)
  | [], _, _ => rfl
  | c :: l, n, ds => by
    rw [List.foldl_cons, scF_pre, sc_pre held cs l, List.foldl_cons]
theorem sc_from (held : List Nat) (cs : List (List Nat)) (l : List Nat) (n : Option (List Nat)) : l.foldl (scF held) (n, cs) = ((l.foldl (scF held) (n, [])).1, cs ++ (l.foldl (scF held) (n, [])).2) := by
  have := sc_pre held cs l n []
  rw [List.append_nil] at this
  exact this
/-- behind a free sign x: the cuts of what follows -/
def gapM (held : List Nat) (x : Nat) (l : List Nat) : List (List Nat) := (l.foldl (scF held) (some [x], [])).2
theorem sc_free {held : List Nat} {x : Nat} (hx : x ∉ held) (s : ScS) : (scF held s x).1 = some [x] := by
  unfold scF
  rw [if_neg hx]
theorem scan_at {held A R : List Nat} {x : Nat} (hx : x ∉ held) : scan held (A ++ x :: R) = ((R.foldl (scF held) (some [x], [])).1, (scan held (A ++ [x])).2 ++ gapM held x R) := by
  unfold scan gapM
  rw [List.foldl_append, List.foldl_append, List.foldl_cons, List.foldl_cons, List.foldl_nil]
  have e : scF held (A.foldl (scF held) (none, [])) x = (some [x], (scF held (A.foldl (scF held) (none, [])) x).2) := by
    rw [← sc_free hx (A.foldl (scF held) (none, []))]
  rw [e, sc_from]
theorem gap_at {held M R : List Nat} {x y : Nat} (hy : y ∉ held) : (M ++ y :: R).foldl (scF held) (some [x], []) = ((R.foldl (scF held) (some [y], [])).1, gapM held x (M ++ [y]) ++ gapM held y R) := by
  unfold gapM
  rw [List.foldl_append, List.foldl_append, List.foldl_cons, List.foldl_cons, List.foldl_nil]
  have e : scF held (M.foldl (scF held) (some [x], [])) y = (some [y], (scF held (M.foldl (scF held) (some [x], [])) y).2) := by
    rw [← sc_free hy (M.foldl (scF held) (some [x], []))]
  rw [e, sc_from]
theorem gap_split {held M R : List Nat} {x y : Nat} (hy : y ∉ held) : gapM held x (M ++ y :: R) = gapM held x (M ++ [y]) ++ gapM held y R := by
  have := congrArg (·.2) (gap_at (held := held) (M := M) (R := R) (x := x) hy)
  exact this
theorem sc_held {held : List Nat} : ∀ {M : List Nat} (_ : ∀ c ∈ M, c ∈ held) (m : List Nat) (cs : List (List Nat)), M.foldl (scF held) (some m, cs) = (some (m ++ M), cs)
  | [], _, m, cs => by simp
  | c :: M, h, m, cs => by
    have e : scF held (some m, cs) c = (some (m ++ [c]), cs) := by
      unfold scF
      rw [if_pos (h c (by simp))]
      rfl
    rw [List.foldl_cons, e, sc_held (fun d hd => h d (by simp [hd]))]
    simp
theorem gap_one {held M : List Nat} {x y : Nat} (h : ∀ c ∈ M, c ∈ held) (hy : y ∉ held) : gapM held x (M ++ [y]) = [x :: (M ++ [y])] := by
  unfold gapM
  rw [List.foldl_append, sc_held h, List.foldl_cons, List.foldl_nil]
  unfold scF
  rw [if_neg hy]
  simp
/-- the first free sign -/
theorem free_split (held : List Nat) : ∀ M : List Nat, (∀ c ∈ M, c ∈ held) ∨ ∃ M1 z M2, M = M1 ++ z :: M2 ∧ z ∉ held ∧ ∀ c ∈ M1, c ∈ held
  | [] => .inl fun c hc => by cases hc
  | c :: M => by
    by_cases h : c ∈ held
    · rcases free_split held M with k | ⟨M1, z, M2, rfl, h1, h2⟩
      · exact .inl fun d hd => (List.mem_cons.mp hd).elim (fun e => e ▸ h) (k d)
      · exact .inr ⟨c :: M1, z, M2, rfl, h1, fun d hd => (List.mem_cons.mp hd).elim (fun e => e ▸ h) (h2 d)⟩
    · exact .inr ⟨[], c, M, rfl, h, fun d hd => by cases hd⟩
theorem gap_rev {held : List Nat} : ∀ (n : Nat) {M : List Nat} {x y : Nat}, M.length ≤ n → x ∉ held → y ∉ held → gapM held y (M.reverse ++ [x]) = ((gapM held x (M ++ [y])).map List.reverse).reverse := by
  intro n
  induction n with
  | zero =>
    intro M x y hn hx hy
    obtain rfl : M = [] := List.eq_nil_of_length_eq_zero (by omega)
    rw [gap_one (by simp) hy]
    show gapM held y ([] ++ [x]) = _
    rw [gap_one (by simp) hx]
    rfl
  | succ n ih =>
    intro M x y hn hx hy
    rcases free_split held M with k | ⟨M1, z, M2, rfl, hz, k⟩
    · rw [gap_one k hy, gap_one (fun c hc => k c (List.mem_reverse.mp hc)) hx]
      simp
    · rw [List.length_append, List.length_cons] at hn
      rw [List.append_assoc, List.cons_append, gap_split hz, List.map_append, List.reverse_append, List.reverse_append, List.reverse_cons, List.append_assoc, List.append_assoc, List.singleton_append]
      rw [gap_split (M := M2.reverse) (y := z) hz, ih (M := M2) (by omega) hz hy, ih (M := M1) (by omega) hx hz]
theorem nameM_rev (l : List Nat) : nameM l.reverse = nameM l := by
  unfold nameM
  rw [List.reverse_reverse]
  by_cases h1 : l < l.reverse
  · rw [if_pos h1, if_neg (fun q => List.lt_irrefl l (List.lt_trans h1 q))]
  · by_cases h2 : l.reverse < l
    · rw [if_neg h1, if_pos h2]
    · rw [if_neg h1, if_neg h2]
      exact List.le_antisymm h1 h2
theorem gap_names {held M : List Nat} {x : Nat} (hx : x ∉ held) : ((gapM held x (M.reverse ++ [x])).map nameM).Perm ((gapM held x (M ++ [x])).map nameM) := by
  rw [gap_rev M.length (Nat.le_refl _) hx hx, List.map_reverse, List.map_map, show (nameM ∘ List.reverse) = nameM from funext nameM_rev]
  exact List.reverse_perm _
def hdM (held : List Nat) : List Nat → List Nat
  | [] => []
  | c :: l => if c ∈ held then c :: hdM held l else [c]
theorem freeM_cons (held : List Nat) (c : Nat) (row : List Nat) : freeM (c :: row) held = (if c ∈ held then [] else [0]) ++ (freeM row held).map (· + 1) := by
  unfold freeM
  rw [List.length_cons, List.range_succ_eq_map, List.filter_cons, List.filter_map]
  have e : ((fun i => decide ((c :: row).getD i 0 ∉ held)) ∘ Nat.succ) = fun i => decide (row.getD i 0 ∉ held) := by
    funext i
    simp [Function.comp]
  rw [e]
  by_cases h : c ∈ held
  · simp [h]
  · simp [h]
theorem headM_hd (held : List Nat) : ∀ row : List Nat, headM row held = hdM held row
  | [] => rfl
  | c :: row => by
    have ih := headM_hd held row
    unfold headM at ih ⊢
    rw [freeM_cons]
    unfold hdM
    by_cases h : c ∈ held
    · rw [if_pos h, if_pos h, List.nil_append, ← ih]
      cases freeM row held with
      | nil => rfl
      | cons s sp => rfl
    · rw [if_neg h, if_neg h]
      rfl
theorem hd_at {held A R : List Nat} {x : Nat} (hx : x ∉ held) : hdM held (A ++ x :: R) = hdM held (A ++ [x]) := by
  induction A with
  | nil => simp [hdM, hx]
  | cons c A ih =>
    rw [List.cons_append, List.cons_append]
    unfold hdM
    rw [ih]
theorem scan_take {held row : List Nat} : ∀ i, i ≤ row.length → (scan held (row.take i)).1 = ((freeP row held i).getLast?.map fun l => (row.drop l).take (i - l)) ∧ (scan held (row.take i)).2.map nameM = cutsM row (freeP row held i) := by
  intro i
  induction i with
  | zero =>
    intro _
    have e : freeP row held 0 = [] := rfl
    rw [List.take_zero, e]
    exact ⟨rfl, rfl⟩
  | succ i ih =>
    intro hi
    obtain ⟨h1, h2⟩ := ih (by omega)
    have hc : row[i]? = some row[i] := List.getElem?_eq_getElem (by omega)
    have gc : row.getD i 0 = row[i] := by rw [List.getD_eq_getElem?_getD, hc]; rfl
    rw [freeP_more, gc, ← take_snoc hc]
    have e : scan held (row.take i ++ [row[i]]) = scF held (scan held (row.take i)) row[i] := by
      unfold scan
      rw [List.foldl_append]; rfl
    rw [e]
    unfold scF
    by_cases h : row[i] ∈ held
    · rw [if_pos h, if_pos h, List.append_nil]
      refine ⟨?_, h2⟩
      show Option.map _ (scan held (row.take i)).1 = _
      rw [h1]
      cases hl : (freeP row held i).getLast? with
      | none => rfl
      | some l =>
        have hlt := freeP_lt (List.mem_of_getLast? hl)
        show some ((row.drop l).take (i - l) ++ [row[i]]) = some ((row.drop l).take (i + 1 - l))
        rw [show i + 1 - l = (i - l) + 1 by omega]
        exact congrArg some (take_snoc (by rw [List.getElem?_drop]; rw [show l + (i - l) = i by omega]; exact hc))
    · rw [if_neg h, if_neg h, cutsM_more]
      constructor
      · rw [List.getLast?_append]
        show some [row[i]] = some ((row.drop i).take (i + 1 - i))
        rw [List.drop_eq_getElem_cons (by omega), show i + 1 - i = 1 by omega]
        rfl
      · show List.map nameM (match (scan held (row.take i)).1 with | none => (scan held (row.take i)).2 | some m => (scan held (row.take i)).2 ++ [m ++ [row[i]]]) = _
        rw [h1, ← h2]
        cases hl : (freeP row held i).getLast? with
        | none => simp
        | some l =>
          have hlt := freeP_lt (List.mem_of_getLast? hl)
          show List.map nameM ((scan held (row.take i)).2 ++ [(row.drop l).take (i - l) ++ [row[i]]]) = _
          rw [List.map_append]
          congr 1
          show [nameM ((row.drop l).take (i - l) ++ [row[i]])] = [nameM (subM row l i)]
          unfold subM
          rw [show i + 1 - l = (i - l) + 1 by omega, ← take_snoc (by rw [List.getElem?_drop]; rw [show l + (i - l) = i by omega]; exact hc)]
theorem midM_scan (row held : List Nat) : midM row held = sortT ((scan held row).2.map nameM) := by
  have h := (scan_take (held := held) (row := row) row.length (Nat.le_refl _)).2
  rw [List.take_length] at h
  unfold midM
  rw [h]
  rfl
theorem tailM_scan (row held : List Nat) : tailM row held = (scan held row).1.getD [] := by
  have h := (scan_take (held := held) (row := row) row.length (Nat.le_refl _)).1
  rw [List.take_length] at h
  unfold tailM
  rw [h]
  show (match (freeP row held row.length).getLast? with | none => [] | some s => row.drop s) = _
  cases (freeP row held row.length).getLast? with
  | none => rfl
  | some l =>
    show row.drop l = (row.drop l).take (row.length - l)
    rw [List.take_of_length_le (by simp)]
/-- the middle of a row turned around between two equal free signs -/
theorem thr_turn {held A M B : List Nat} {x : Nat} (hx : x ∉ held) : headM (A ++ x :: (M.reverse ++ x :: B)) held = headM (A ++ x :: (M ++ x :: B)) held ∧ midM (A ++ x :: (M.reverse ++ x :: B)) held = midM (A ++ x :: (M ++ x :: B)) held ∧
    tailM (A ++ x :: (M.reverse ++ x :: B)) held = tailM (A ++ x :: (M ++ x :: B)) held := by
  refine ⟨?_, ?_, ?_⟩
  · rw [headM_hd, headM_hd, hd_at hx, hd_at (R := M ++ x :: B) hx]
  · rw [midM_scan, midM_scan, scan_at hx, scan_at (R := M ++ x :: B) hx]
    refine sortT_perm ?_
    show List.Perm (List.map nameM (_ ++ gapM held x (M.reverse ++ x :: B))) (List.map nameM (_ ++ gapM held x (M ++ x :: B)))
    rw [gap_split hx, gap_split (M := M) hx, List.map_append, List.map_append, List.map_append, List.map_append]
    exact List.Perm.append_left _ (List.Perm.append_right _ (gap_names hx))
  · rw [tailM_scan, tailM_scan, scan_at hx, scan_at (R := M ++ x :: B) hx, gap_at hx, gap_at (M := M) hx]
theorem turn_form {row : List Nat} {h t : Nat} (hh : h < t) (ht : t < row.length) (e : row.getD t 0 = row.getD h 0) : ∃ A M B x, row = A ++ x :: (M ++ x :: B) ∧ turnM row h t = A ++ x :: (M.reverse ++ x :: B) ∧ x = row.getD h 0 := by
  have e1 : row.getD h 0 = row[h] := by rw [List.getD_eq_getElem?_getD, List.getElem?_eq_getElem (by omega)]; rfl
  have e2 : row.getD t 0 = row[t] := by rw [List.getD_eq_getElem?_getD, List.getElem?_eq_getElem ht]; rfl
  have ex : row[t] = row[h] := by rw [← e2, e, e1]
  have s1 : (row.drop h).take (t + 1 - h) = row[h] :: ((row.drop (h + 1)).take (t - h - 1) ++ [row[h]]) := by
    rw [List.drop_eq_getElem_cons (by omega), show t + 1 - h = (t - h) + 1 by omega, List.take_succ_cons]
    congr 1
    rw [show t - h = (t - h - 1) + 1 by omega, ← take_snoc (c := row[h]) (by rw [List.getElem?_drop, show h + 1 + (t - h - 1) = t by omega, List.getElem?_eq_getElem ht, ex])]
    rfl
  refine ⟨row.take h, (row.drop (h + 1)).take (t - h - 1), row.drop (t + 1), row[h], ?_, ?_, e1.symm⟩
  · have e3 : row = row.take h ++ ((row.drop h).take (t + 1 - h) ++ (row.drop h).drop (t + 1 - h)) := by rw [List.take_append_drop, List.take_append_drop]
    rw [s1, List.drop_drop, show h + (t + 1 - h) = t + 1 by omega] at e3
    simpa using e3
  · unfold turnM
    rw [s1]
    simp
theorem thrD_turn {row held : List Nat} {h t : Nat} (hm : (h, t) ∈ turnsM row held) : thrD (turnM row h t) held = thrD row held := by
  obtain ⟨h1, h2, h3, h4⟩ := turnsM_mem hm
  dsimp only at h1 h2 h3 h4
  obtain ⟨A, M, B, x, e1, e2, e3⟩ := turn_form h1 h2 h4
  have hx : x ∉ held := by rw [e3]; exact h3
  obtain ⟨q1, q2, q3⟩ := thr_turn (held := held) (A := A) (M := M) (B := B) hx
  unfold thrD
  rw [e2, q1, q2, q3, ← e1]
theorem Stir.thr {held row r : List Nat} (s : Stir held row r) : thrD r held = thrD row held := by
  induction s with
  | refl => rfl
  | step s hm ih => rw [thrD_turn hm, ih]
theorem zJoin_signs {m : List Nat} {R : DQ} (hm : m.length ≤ 16777216) (h : R false (.str m)) : zJoin (.str []) (.lst (m.map fun c => .str [c])) R := by
  have e : (m.map fun c => Dt.str [c]) = (m.map fun c => [c]).map .str := by rw [List.map_map]; rfl
  rw [e]
  refine zJoin_l (ls := m.map fun c => [c]) ?_ (by rw [joinL_signs]; exact h)
  have es : ∀ l : List Nat, ((l.map fun c => [c]).map (·.length)).sum = l.length := by
    intro l
    induction l with
    | nil => rfl
    | cons c l ih =>
      rw [List.map_cons, List.map_cons, List.sum_cons, ih, List.length_cons, List.length_cons, List.length_nil]
      omega
  rw [es, List.length_nil, Nat.mul_zero]
  exact hm
/-- a row as the program takes it -/
def RowOk (l : List Nat) : Prop := 1 ≤ l.length ∧ l.length ≤ 40 ∧ ∀ c ∈ l, c ∈ abcS
theorem RowOk.ok {l : List Nat} (h : RowOk l) : okT l := fun c hc => abc_lt (h.2.2 c hc)
theorem Stir.row {held row r : List Nat} (s : Stir held row r) (h : RowOk row) : RowOk r := ⟨by rw [s.len]; exact h.1, by rw [s.len]; exact h.2.1, fun c hc => h.2.2 c (s.mem hc)⟩
end Lt
namespace Lt
open PySem PySem.Spec PyProof.Rows L2 Evl
open SX (S)
variable [ZI]
theorem gap_none {G M : List Nat} {x : Nat} (h : ∀ c ∈ M, c ∈ G) : M.foldl (scF G) (some [x], []) = (some (x :: M), []) := by
  rw [sc_held h]; rfl
theorem thrD_inj {a b G : List Nat} (h : thrD a G = thrD b G) : headM a G = headM b G ∧ midM a G = midM b G ∧ tailM a G = tailM b G := by
  unfold thrD at h
  injection h with h
  injection h with h1 h
  injection h with h2 h
  injection h with h3 h
  injection h1 with h1
  injection h2 with h2
  injection h3 with h3
  exact ⟨h1, strs_inj h2, h3⟩
end Lt
namespace Lt
open PySem PySem.Spec PyProof.Rows L2 Evl
open SX (S)
variable [ZI]
def sortN (l : List Nat) : List Nat := l.mergeSort fun a b => decide (a ≤ b)
theorem sortT_signs (l : List Nat) : sortT (l.map fun c => [c]) = (sortN l).map fun c => [c] := by
  unfold sortT sortN
  rw [PySem.W.sort_maps (s := leT) (fun c : Nat => [c])]
  intro a _ b _
  unfold leT
  by_cases h : a ≤ b
  · have : ([a] : List Nat) ≤ [b] := by
      rw [← List.not_lt]
      intro q
      rw [List.cons_lt_cons_iff] at q
      rcases q with q | ⟨_, q⟩
      · omega
      · exact absurd q (List.lt_irrefl _)
    rw [decide_eq_true h, decide_eq_true this]
  · have : ¬ ([a] : List Nat) ≤ [b] := by
      intro q
      rw [← List.not_lt] at q
      exact q (by rw [List.cons_lt_cons_iff]; exact .inl (by omega))
    rw [decide_eq_false h, decide_eq_false this]
def pairM (a b : Nat) : List Nat := if a ≤ b then [a, b] else [b, a]
def incD (al : AL) (k : List Nat) : AL := putD al k (.int ((match lkD al k with | some (.int i) => i | _ => 0) + 1))
def pairsM (row : List Nat) : AL := (row.zip row.tail).foldl (fun al q => incD al (pairM q.1 q.2)) []
def IntD (al : AL) : Prop := ∀ p ∈ al, ∃ n : Nat, p.2 = .int (n : Int)
theorem lkD_mem {al : AL} {k : List Nat} {d : Dt} (h : lkD al k = some d) : (k, d) ∈ al := by
  unfold lkD at h
  cases hf : al.find? fun p => decide (p.1 = k) with
  | none => rw [hf] at h; cases h
  | some p =>
    rw [hf] at h
    cases h
    have h1 := List.mem_of_find?_eq_some hf
    have h2 := List.find?_some hf
    rw [← of_decide_eq_true h2]
    exact h1
theorem putD_mem {al : AL} {k : List Nat} {d : Dt} {p : List Nat × Dt} (h : p ∈ putD al k d) : p ∈ al ∨ p = (k, d) := by
  unfold putD at h
  split at h
  · obtain ⟨q, hq, e⟩ := List.mem_map.mp h
    by_cases c : q.1 = k
    · rw [if_pos c] at e
      exact .inr (by rw [← e, c])
    · rw [if_neg c] at e
      exact .inl (e ▸ hq)
  · rcases List.mem_append.mp h with h | h
    · exact .inl h
    · exact .inr (List.mem_singleton.mp h)
def cntD (al : AL) (k : List Nat) : Nat := match lkD al k with
  | some (.int i) => i.toNat
  | _ => 0
theorem incD_eq {al : AL} (h : IntD al) (k : List Nat) : incD al k = putD al k (.int ((cntD al k : Int) + 1)) := by
  unfold incD cntD
  cases hl : lkD al k with
  | none => rfl
  | some d =>
    obtain ⟨n, hn⟩ := h _ (lkD_mem hl)
    have : d = .int (n : Int) := hn
    subst this
    rfl
end Lt
namespace Lt
open PySem PySem.Spec PyProof.Rows L2 Evl
open SX (S)
variable [ZI]
def adjM (l : List Nat) : List (List Nat) := (l.zip l.tail).map fun q => pairM q.1 q.2
theorem adjM_cons (a b : Nat) (l : List Nat) : adjM (a :: b :: l) = pairM a b :: adjM (b :: l) := rfl
theorem adjM_app : ∀ (l : List Nat) (x : Nat) (r : List Nat), adjM (l ++ x :: r) = adjM (l ++ [x]) ++ adjM (x :: r)
  | [], x, r => rfl
  | [a], x, r => rfl
  | a :: b :: l, x, r => by
    have h := adjM_app (b :: l) x r
    rw [List.cons_append, List.cons_append] at h
    rw [List.cons_append, List.cons_append, List.cons_append, List.cons_append, adjM_cons, adjM_cons, h]
    rfl
theorem foldl_map' {α β γ : Type} (f : γ → β → γ) (g : α → β) : ∀ (l : List α) (c : γ), l.foldl (fun c a => f c (g a)) c = (l.map g).foldl f c
  | [], _ => rfl
  | a :: l, c => foldl_map' f g l (f c (g a))
theorem pairsM_adj (row : List Nat) : pairsM row = (adjM row).foldl incD [] := foldl_map' incD (fun q : Nat × Nat => pairM q.1 q.2) _ _
theorem lkD_cons {p : List Nat × Dt} {al : AL} {k : List Nat} : lkD (p :: al) k = if p.1 = k then some p.2 else lkD al k := by
  unfold lkD
  rw [List.find?_cons]
  by_cases c : p.1 = k
  · rw [decide_eq_true c, if_pos c]; rfl
  · rw [decide_eq_false c, if_neg c]
theorem lkD_none {al : AL} {k : List Nat} : lkD al k = none ↔ ∀ p ∈ al, p.1 ≠ k := by
  unfold lkD
  rw [Option.map_eq_none_iff, List.find?_eq_none]
  exact ⟨fun h p hp e => h p hp (decide_eq_true e), fun h p hp e => h p hp (of_decide_eq_true e)⟩
theorem lkD_app {k : List Nat} : ∀ {al bl : AL}, lkD (al ++ bl) k = match lkD al k with | some d => some d | none => lkD bl k
  | [], bl => rfl
  | p :: al, bl => by
    rw [List.cons_append, lkD_cons, lkD_cons]
    by_cases c : p.1 = k
    · rw [if_pos c, if_pos c]
    · rw [if_neg c, if_neg c, lkD_app]
theorem lkD_upd {k k' : List Nat} {d : Dt} : ∀ {al : AL}, (al.any fun p => decide (p.1 = k)) = true → lkD (al.map fun p => if p.1 = k then (p.1, d) else p) k' = if k = k' then some d else lkD al k'
  | [], h => by cases h
  | p :: al, h => by
    rw [List.map_cons, lkD_cons, lkD_cons]
    by_cases c : p.1 = k
    · rw [if_pos c]
      by_cases e : k = k'
      · rw [if_pos e, if_pos (c.trans e)]
      · rw [if_neg e, if_neg (fun q => e (c.symm.trans q)), if_neg (fun q => e (c.symm.trans q))]
        have key : ∀ al : AL, lkD (al.map fun p => if p.1 = k then (p.1, d) else p) k' = lkD al k' := by
          intro al
          induction al with
          | nil => rfl
          | cons q al ih =>
            rw [List.map_cons, lkD_cons, lkD_cons, ih]
            by_cases c2 : q.1 = k
            · rw [if_pos c2, if_neg (fun z => e (c2.symm.trans z)), if_neg (fun z => e (c2.symm.trans z))]
            · rw [if_neg c2]
        exact key al
    · rw [if_neg c]
      have h2 : (al.any fun p => decide (p.1 = k)) = true := by
        rw [List.any_cons, decide_eq_false c, Bool.false_or] at h
        exact h
      rw [lkD_upd h2]
      by_cases e : k = k'
      · rw [if_pos e, if_neg (fun q => c (q.trans e.symm)), if_pos e]
      · rw [if_neg e, if_neg e]
theorem lkD_put {al : AL} {k k' : List Nat} {d : Dt} : lkD (putD al k d) k' = if k = k' then some d else lkD al k' := by
  unfold putD
  by_cases h : (al.any fun p => decide (p.1 = k)) = true
  · rw [if_pos h, lkD_upd h]
  · rw [if_neg h, lkD_app, lkD_cons]
    by_cases e : k = k'
    · subst e
      have : lkD al k = none := lkD_none.mpr fun p hp e => h (List.any_eq_true.mpr ⟨p, hp, decide_eq_true e⟩)
      rw [this]
      simp
    · rw [if_neg e, if_neg e]
      cases lkD al k' <;> rfl
theorem putD_keys {al : AL} {k : List Nat} {d : Dt} (h : (al.map (·.1)).Nodup) : ((putD al k d).map (·.1)).Nodup := by
  unfold putD
  split
  · rw [List.map_map]
    have : (al.map ((fun p : List Nat × Dt => p.1) ∘ fun p => if p.1 = k then (p.1, d) else p)) = al.map (·.1) := List.map_congr_left fun p _ => by
      show (if p.1 = k then (p.1, d) else p).1 = p.1
      split <;> rfl
    rw [this]; exact h
  · rename_i hn
    rw [List.map_append, List.nodup_append]
    refine ⟨h, by simp, fun x hx y hy e => ?_⟩
    obtain ⟨p, hp, rfl⟩ := List.mem_map.mp hx
    have hy : y = k := by simpa using hy
    exact hn (List.any_eq_true.mpr ⟨p, hp, decide_eq_true (e.trans hy)⟩)
end Lt
namespace Lt
open PySem PySem.Spec PyProof.Rows L2 Evl
open SX (S)
variable [ZI]
def rawM (row sp : List Nat) : List (List Nat) := (sp.zip sp.tail).map fun q => subM row q.1 q.2
def thM (row held : List Nat) : List (List Nat) := rawM row (freeM row held)
theorem cutsM_raw (row sp : List Nat) : cutsM row sp = (rawM row sp).map nameM := by
  unfold cutsM rawM
  rw [List.map_map]; rfl
theorem zip_snoc : ∀ (sp : List Nat) (i : Nat), (sp ++ [i]).zip (sp ++ [i]).tail = sp.zip sp.tail ++ match sp.getLast? with | none => [] | some l => [(l, i)]
  | [], i => rfl
  | [a], i => rfl
  | a :: b :: sp, i => by
    have := zip_snoc (b :: sp) i
    simp only [List.cons_append, List.tail_cons, List.zip_cons_cons] at this ⊢
    rw [this]
    rfl
theorem rawM_more (row sp : List Nat) (i : Nat) : rawM row (sp ++ [i]) = rawM row sp ++ match sp.getLast? with
  | none => []
  | some l => [subM row l i] := by
  unfold rawM
  rw [zip_snoc, List.map_append]
  congr 1
  split <;> simp_all
theorem scan_raw {held row : List Nat} : ∀ i, i ≤ row.length → (scan held (row.take i)).2 = rawM row (freeP row held i) := by
  intro i
  induction i with
  | zero => intro _; rw [List.take_zero]; rfl
  | succ i ih =>
    intro hi
    have h1 := (scan_take (held := held) (row := row) i (by omega)).1
    have h2 := ih (by omega)
    have hc : row[i]? = some row[i] := List.getElem?_eq_getElem (by omega)
    have gc : row.getD i 0 = row[i] := by rw [List.getD_eq_getElem?_getD, hc]; rfl
    rw [freeP_more, gc, ← take_snoc hc]
    have e : scan held (row.take i ++ [row[i]]) = scF held (scan held (row.take i)) row[i] := by
      unfold scan
      rw [List.foldl_append]; rfl
    rw [e]
    unfold scF
    by_cases h : row[i] ∈ held
    · rw [if_pos h, if_pos h, List.append_nil]
      exact h2
    · rw [if_neg h, if_neg h, rawM_more]
      show (match (scan held (row.take i)).1 with | none => (scan held (row.take i)).2 | some m => (scan held (row.take i)).2 ++ [m ++ [row[i]]]) = _
      rw [h1, ← h2]
      cases hl : (freeP row held i).getLast? with
      | none => simp
      | some l =>
        have hlt := freeP_lt (List.mem_of_getLast? hl)
        show (scan held (row.take i)).2 ++ [(row.drop l).take (i - l) ++ [row[i]]] = _
        congr 1
        show [(row.drop l).take (i - l) ++ [row[i]]] = [subM row l i]
        unfold subM
        rw [show i + 1 - l = (i - l) + 1 by omega, ← take_snoc (by rw [List.getElem?_drop]; rw [show l + (i - l) = i by omega]; exact hc)]
theorem thM_scan (row held : List Nat) : thM row held = (scan held row).2 := by
  have h := scan_raw (held := held) (row := row) row.length (Nat.le_refl _)
  rw [List.take_length] at h
  rw [h]; rfl
theorem rawM_len (row sp : List Nat) : (rawM row sp).length = sp.length - 1 := by
  unfold rawM
  rw [List.length_map, List.length_zip, List.length_tail]
  omega
theorem freeM_P (row held : List Nat) : freeM row held = freeP row held row.length := rfl
theorem freeP_take {row held : List Nat} {i n : Nat} (h : i ≤ n) (hn : n ≤ row.length) : freeP (row.take n) held i = freeP row held i := by
  unfold freeP
  refine List.filter_congr fun j hj => ?_
  rw [List.mem_range] at hj
  have : (row.take n).getD j 0 = row.getD j 0 := by
    rw [List.getD_eq_getElem?_getD, List.getD_eq_getElem?_getD, List.getElem?_take, if_pos (by omega)]
  rw [this]
theorem freeP_pre (row held : List Nat) : ∀ (n i : Nat), i ≤ n → ∃ r, freeP row held n = freeP row held i ++ r ∧ ∀ x ∈ r, i ≤ x := by
  intro n
  induction n with
  | zero => intro i hi; obtain rfl : i = 0 := by omega
            exact ⟨[], by simp, by simp⟩
  | succ n ih =>
    intro i hi
    by_cases c : i = n + 1
    · subst c; exact ⟨[], by simp, by simp⟩
    · obtain ⟨r, h1, h2⟩ := ih i (by omega)
      rw [freeP_more, h1]
      refine ⟨r ++ (if row.getD n 0 ∈ held then [] else [n]), by rw [List.append_assoc], fun x hx => ?_⟩
      rcases List.mem_append.mp hx with hx | hx
      · exact h2 x hx
      · split at hx
        · cases hx
        · rw [List.mem_singleton.mp hx]; omega
theorem freeM_at {row held : List Nat} {k s : Nat} (h : (freeM row held)[k]? = some s) : s < row.length ∧ row.getD s 0 ∉ held ∧ (freeP row held s).length = k := by
  have hm := freeM_lt (List.mem_of_getElem? h)
  refine ⟨hm.1, hm.2, ?_⟩
  obtain ⟨r, h1, h2⟩ := freeP_pre row held row.length (s + 1) (by omega)
  rw [freeP_more, if_neg hm.2] at h1
  rw [freeM_P, h1] at h
  rw [List.append_assoc] at h
  by_cases c : k < (freeP row held s).length
  · rw [List.getElem?_append_left c] at h
    have := freeP_lt (List.mem_of_getElem? h)
    omega
  · rw [List.getElem?_append_right (by omega)] at h
    cases hk : k - (freeP row held s).length with
    | zero => omega
    | succ m =>
      rw [hk] at h
      have h : r[m]? = some s := by simpa using h
      have := h2 s (List.mem_of_getElem? h)
      omega
theorem freeM_of {row held : List Nat} {s : Nat} (hs : s < row.length) (hf : row.getD s 0 ∉ held) : (freeM row held)[(freeP row held s).length]? = some s := by
  obtain ⟨r, h1, h2⟩ := freeP_pre row held row.length (s + 1) (by omega)
  rw [freeP_more, if_neg hf] at h1
  rw [freeM_P, h1, List.append_assoc, List.getElem?_append_right (Nat.le_refl _)]
  simp
theorem freeM_mono {row held : List Nat} {i j s t : Nat} (h : (freeM row held)[i]? = some s) (h' : (freeM row held)[j]? = some t) (hij : i < j) : s < t := by
  have a := (freeM_at h).2.2
  have b := (freeM_at h').2.2
  by_cases c : s < t
  · exact c
  · obtain ⟨r, h1, _⟩ := freeP_pre row held s t (by omega)
    have := congrArg List.length h1
    rw [List.length_append] at this
    omega
/-- the k-th thread lies between the k-th free place and the next -/
theorem thM_get {row held : List Nat} {k : Nat} {w : List Nat} : (thM row held)[k]? = some w ↔ ∃ s t, (freeM row held)[k]? = some s ∧ (freeM row held)[k + 1]? = some t ∧ w = subM row s t := by
  unfold thM rawM
  rw [List.getElem?_map]
  constructor
  · intro h
    cases hz : ((freeM row held).zip (freeM row held).tail)[k]? with
    | none => rw [hz] at h; cases h
    | some q =>
      rw [hz] at h
      obtain ⟨s, t⟩ := q
      rw [List.getElem?_zip_eq_some] at hz
      cases h
      refine ⟨s, t, hz.1, ?_, rfl⟩
      have := hz.2
      rwa [List.getElem?_tail] at this
  · rintro ⟨s, t, h1, h2, rfl⟩
    have : ((freeM row held).zip (freeM row held).tail)[k]? = some (s, t) := by
      rw [List.getElem?_zip_eq_some, List.getElem?_tail]
      exact ⟨h1, h2⟩
    rw [this]; rfl
theorem take_eq_at {row : List Nat} {s : Nat} (hs : s < row.length) : row.take (s + 1) = row.take s ++ [row.getD s 0] := by
  rw [List.getD_eq_getElem?_getD, List.getElem?_eq_getElem hs]
  exact (take_snoc (List.getElem?_eq_getElem hs)).symm
theorem row_at {row : List Nat} {s : Nat} (hs : s < row.length) : row = row.take s ++ row.getD s 0 :: row.drop (s + 1) := by
  rw [List.getD_eq_getElem?_getD, List.getElem?_eq_getElem hs]
  show row = row.take s ++ row[s] :: row.drop (s + 1)
  rw [List.getElem_cons_drop, List.take_append_drop]
theorem th_split {row held : List Nat} {k s : Nat} (h : (freeM row held)[k]? = some s) : (thM row held).take k = (scan held (row.take (s + 1))).2 ∧ (thM row held).drop k = gapM held (row.getD s 0) (row.drop (s + 1)) := by
  obtain ⟨h1, h2, h3⟩ := freeM_at h
  have e : thM row held = (scan held (row.take (s + 1))).2 ++ gapM held (row.getD s 0) (row.drop (s + 1)) := by
    rw [thM_scan]
    conv => lhs; rw [row_at h1]
    rw [scan_at h2, take_eq_at h1]
  have hl : (scan held (row.take (s + 1))).2.length = k := by
    rw [scan_raw (s + 1) (by omega), rawM_len, freeP_more, if_neg h2, List.length_append, h3]
    simp
  rw [e, ← hl]
  exact ⟨List.take_left, List.drop_left⟩
theorem turnsM_of {row held : List Nat} {h t : Nat} (hh : h < t) (ht : t < row.length) (hf : row.getD h 0 ∉ held) (he : row.getD t 0 = row.getD h 0) : (h, t) ∈ turnsM row held := by
  unfold turnsM
  rw [List.mem_flatMap]
  refine ⟨h, List.mem_range.mpr (by omega), ?_⟩
  unfold turnsAt turnsIn
  rw [if_neg hf, List.mem_map]
  refine ⟨t, ?_, rfl⟩
  rw [List.mem_filter, List.mem_range'_1]
  exact ⟨by omega, decide_eq_true he⟩
theorem freeP_same {a b held : List Nat} {n : Nat} (h : a.take n = b.take n) (ha : n ≤ a.length) (hb : n ≤ b.length) : ∀ i, i ≤ n → freeP a held i = freeP b held i := fun i hi => by
  rw [← freeP_take (row := a) hi ha, ← freeP_take (row := b) hi hb, h]
theorem getD_same {a b : List Nat} {n i : Nat} (h : a.take n = b.take n) (hi : i < n) : a.getD i 0 = b.getD i 0 := by
  have e : ∀ l : List Nat, l.getD i 0 = (l.take n).getD i 0 := fun l => by
    rw [List.getD_eq_getElem?_getD, List.getD_eq_getElem?_getD, List.getElem?_take, if_pos hi]
  rw [e a, e b, h]
theorem freeM_same {a b held : List Nat} {n k s : Nat} (h : a.take n = b.take n) (ha : n ≤ a.length) (hb : n ≤ b.length) (hs : s < n) (hk : (freeM a held)[k]? = some s) : (freeM b held)[k]? = some s := by
  obtain ⟨h1, h2, h3⟩ := freeM_at hk
  rw [freeP_same h ha hb s (by omega)] at h3
  rw [← h3]
  exact freeM_of (by omega) (by rw [← getD_same h hs]; exact h2)
end Lt
namespace Lt
open PySem PySem.Spec PyProof.Rows L2 Evl
open SX (S)
variable [ZI]
def fstM (w : List Nat) : Nat := w.headD 0
def lstM (w : List Nat) : Nat := fstM w.reverse
theorem fst_sub {row : List Nat} {s t : Nat} (hs : s ≤ t) (ht : t < row.length) : fstM (subM row s t) = row.getD s 0 := by
  unfold fstM subM
  rw [List.drop_eq_getElem_cons (by omega), show t + 1 - s = (t - s) + 1 by omega, List.take_succ_cons, List.getD_eq_getElem?_getD, List.getElem?_eq_getElem (by omega)]
  rfl
theorem sub_snoc {row : List Nat} {s t : Nat} (hs : s ≤ t) (ht : t < row.length) : subM row s t = (row.drop s).take (t - s) ++ [row.getD t 0] := by
  unfold subM
  rw [show t + 1 - s = (t - s) + 1 by omega, ← take_snoc (c := row.getD t 0)]
  rw [List.getElem?_drop, show s + (t - s) = t by omega, List.getD_eq_getElem?_getD, List.getElem?_eq_getElem ht]
  rfl
theorem lst_sub {row : List Nat} {s t : Nat} (hs : s ≤ t) (ht : t < row.length) : lstM (subM row s t) = row.getD t 0 := by
  unfold lstM
  rw [sub_snoc hs ht, List.reverse_append]
  rfl
theorem name_or (w : List Nat) : nameM w = w ∨ nameM w = w.reverse := by
  unfold nameM
  split
  · exact .inr rfl
  · exact .inl rfl
theorem th_ends {row held w : List Nat} {k : Nat} (h : (thM row held)[k]? = some w) : ∃ s t, (freeM row held)[k]? = some s ∧ (freeM row held)[k + 1]? = some t ∧ w = subM row s t ∧ s < t ∧ t < row.length ∧ fstM w = row.getD s 0 ∧ lstM w = row.getD t 0 := by
  obtain ⟨s, t, h1, h2, rfl⟩ := thM_get.mp h
  have h3 := freeM_mono h1 h2 (Nat.lt_succ_self k)
  have h4 := (freeM_at h2).1
  exact ⟨s, t, h1, h2, rfl, h3, h4, fst_sub (by omega) h4, lst_sub (by omega) h4⟩
theorem len_gap {held : List Nat} : ∀ (n : Nat) {R : List Nat} {x : Nat}, R.length ≤ n → x ∉ held → R.length + 1 = ((gapM held x R).map fun w => w.length - 1).sum + ((R.foldl (scF held) (some [x], [])).1.getD []).length := by
  intro n
  induction n with
  | zero =>
    intro R x hn hx
    obtain rfl : R = [] := List.eq_nil_of_length_eq_zero (by omega)
    rfl
  | succ n ih =>
    intro R x hn hx
    rcases free_split held R with k | ⟨M, z, R2, rfl, hz, k⟩
    · have e : gapM held x R = [] := by unfold gapM; rw [gap_none k]
      rw [e, gap_none k]
      simp
    · rw [List.length_append, List.length_cons] at hn ⊢
      have h := ih (R := R2) (x := z) (by omega) hz
      rw [gap_split hz, gap_one k hz, gap_at hz, List.map_append, List.sum_append, List.map_cons, List.map_nil, List.sum_cons, List.sum_nil]
      simp only [List.length_cons, List.length_append, List.length_nil]
      omega
theorem name_len (w : List Nat) : (nameM w).length = w.length := by
  rcases name_or w with e | e <;> rw [e]
  rw [List.length_reverse]
theorem tail_at {row held : List Nat} {s : Nat} (h : (freeM row held).getLast? = some s) : tailM row held = row.drop s := by
  unfold tailM
  rw [h]
theorem thr_perm {a b held : List Nat} (h : thrD a held = thrD b held) : ((thM a held).map nameM).Perm ((thM b held).map nameM) := by
  have h2 := (thrD_inj h).2.1
  have e : ∀ r, ((thM r held).map nameM).Perm (midM r held) := fun r => by
    unfold midM
    rw [cutsM_raw]
    exact (List.mergeSort_perm ..).symm
  exact (e a).trans (h2 ▸ (e b).symm)
theorem free_none {row held : List Nat} (h : freeM row held = []) : headM row held = row ∧ tailM row held = [] := by
  unfold headM tailM
  rw [h]
  exact ⟨rfl, rfl⟩
theorem head_some {row held : List Nat} {s : Nat} (h : (freeM row held)[0]? = some s) : headM row held = row.take (s + 1) := by
  unfold headM
  cases hf : freeM row held with
  | nil => rw [hf] at h; cases h
  | cons a l => rw [hf] at h; cases h; rfl
theorem tail_pos {row held : List Nat} (h : freeM row held ≠ []) : tailM row held ≠ [] := by
  cases hg : (freeM row held).getLast? with
  | none => rw [List.getLast?_eq_none_iff] at hg; exact absurd hg h
  | some s =>
    rw [tail_at hg]
    have := (freeM_lt (List.mem_of_getLast? hg)).1
    intro e
    have := congrArg List.length e
    simp at this
    omega
theorem row_len {row held : List Nat} {s : Nat} (h : (freeM row held)[0]? = some s) : row.length + 1 = (headM row held).length + (((thM row held).map nameM).map fun w => w.length - 1).sum + (tailM row held).length := by
  obtain ⟨h1, h2, _⟩ := freeM_at h
  have e := (th_split h).2
  rw [List.drop_zero] at e
  have hg := len_gap (held := held) (R := row.drop (s + 1)) (x := row.getD s 0) _ (Nat.le_refl _) h2
  rw [← e] at hg
  have et : tailM row held = ((row.drop (s + 1)).foldl (scF held) (some [row.getD s 0], [])).1.getD [] := by
    rw [tailM_scan]
    conv => lhs; rw [row_at h1]
    rw [scan_at h2]
  have es : (((thM row held).map nameM).map fun w => w.length - 1) = (thM row held).map fun w => w.length - 1 := by
    rw [List.map_map]
    refine List.map_congr_left fun w _ => ?_
    show (nameM w).length - 1 = _
    rw [name_len]
  rw [head_some h, et, es, List.length_take, Nat.min_eq_left (by omega)]
  rw [List.length_drop] at hg
  omega
theorem thr_free {a b held : List Nat} (h : thrD a held = thrD b held) : freeM a held = [] ↔ freeM b held = [] := by
  have key : ∀ {a b : List Nat}, thrD a held = thrD b held → freeM a held = [] → freeM b held = [] := fun {a b} h e => by
    refine Classical.byContradiction fun hb => ?_
    have := (thrD_inj h).2.2
    rw [(free_none e).2] at this
    exact tail_pos hb this.symm
  exact ⟨key h, key h.symm⟩
theorem thr_len {a b held : List Nat} (h : thrD a held = thrD b held) : a.length = b.length := by
  obtain ⟨h1, h2, h3⟩ := thrD_inj h
  cases ha : freeM a held with
  | nil =>
    have hb := (thr_free h).mp ha
    rw [(free_none ha).1, (free_none hb).1] at h1
    rw [h1]
  | cons s l =>
    cases hb : freeM b held with
    | nil => rw [(thr_free h).mpr hb] at ha; cases ha
    | cons s' l' =>
      have r1 := row_len (row := a) (held := held) (s := s) (by rw [ha]; rfl)
      have r2 := row_len (row := b) (held := held) (s := s') (by rw [hb]; rfl)
      have hs := ((thr_perm h).map fun w => w.length - 1).sum_nat
      rw [h1, h3, hs] at r1
      omega
/-- how far a row has come to another: its first threads stand -/
structure Come (held other one : List Nat) (a : Nat) : Prop where
  thr : thrD one held = thrD other held
  pre : ∃ s, (freeM other held)[a]? = some s ∧ one.take (s + 1) = other.take (s + 1)
theorem Come.at {held other one : List Nat} {a : Nat} (h : Come held other one a) : ∃ s, (freeM other held)[a]? = some s ∧ (freeM one held)[a]? = some s ∧ one.take (s + 1) = other.take (s + 1) ∧ (thM one held).take a = (thM other held).take a ∧ (((thM one held).drop a).map nameM).Perm (((thM other held).drop a).map nameM) ∧ one.getD s 0 = other.getD s 0 := by
  obtain ⟨s, h1, h2⟩ := h.pre
  have hl := thr_len h.thr
  have hs := (freeM_at h1).1
  have h3 : (freeM one held)[a]? = some s := freeM_same h2.symm (by omega) (by omega) (Nat.lt_succ_self _) h1
  have h4 : (thM one held).take a = (thM other held).take a := by rw [(th_split h1).1, (th_split h3).1, h2]
  refine ⟨s, h1, h3, h2, h4, ?_, getD_same h2 (Nat.lt_succ_self _)⟩
  have hp := thr_perm h.thr
  rw [← List.take_append_drop a (thM one held), ← List.take_append_drop a (thM other held), List.map_append, List.map_append, h4] at hp
  exact (List.perm_append_left_iff _).mp hp
/-- the thread at hand stands -/
theorem come_next {held other one : List Nat} {a s t : Nat} (h : Come held other one a) (h1 : (freeM other held)[a]? = some s) (h2 : (freeM other held)[a + 1]? = some t) (e : subM one s t = subM other s t) : Come held other one (a + 1) := by
  obtain ⟨s', h1', h2', h3, _, _, _⟩ := h.at
  rw [h1] at h1'
  cases h1'
  refine ⟨h.thr, t, h2, ?_⟩
  have hst := freeM_mono h1 h2 (Nat.lt_succ_self _)
  have ht := (freeM_at h2).1
  have k : ∀ r : List Nat, r.take (t + 1) = r.take s ++ subM r s t := fun r => by
    unfold subM
    have := List.take_add (l := r) (i := s) (j := t + 1 - s)
    rw [show s + (t + 1 - s) = t + 1 by omega] at this
    exact this
  have h6 : one.take s = other.take s := by
    have := congrArg (List.take s) h3
    rwa [List.take_take, List.take_take, Nat.min_eq_left (by omega)] at this
  rw [k one, k other, e, h6]
/-- a slice of one is the thread wanted: so it's its thread -/
theorem slice_th {held other one : List Nat} {a s t : Nat} (h : Come held other one a) (h1 : (freeM other held)[a]? = some s) (h2 : (freeM other held)[a + 1]? = some t) : subM one s t = subM other s t ↔ (thM one held)[a]? = some (subM other s t) := by
  constructor
  · intro e
    have := (come_next h h1 h2 e).at
    obtain ⟨t', q1, q2, _, q4, _, _⟩ := this
    have hw : (thM other held)[a]? = some (subM other s t) := thM_get.mpr ⟨s, t, h1, h2, rfl⟩
    have := congrArg (fun l => l[a]?) q4
    simp only [List.getElem?_take, if_pos (Nat.lt_succ_self a)] at this
    rw [this, hw]
  · intro e
    obtain ⟨s', h1', h2', h3, _, _, _⟩ := h.at
    rw [h1] at h1'
    cases h1'
    obtain ⟨s', t', f1, f2, ew, k1, k2, _, _⟩ := th_ends e
    rw [h2'] at f1
    cases f1
    have ht := freeM_at h2
    have hst := freeM_mono h1 h2 (Nat.lt_succ_self _)
    have hl := congrArg List.length ew
    unfold subM at hl
    rw [List.length_take, List.length_take, List.length_drop, List.length_drop] at hl
    have : t' = t := by omega
    subst this
    exact ew.symm
end Lt
namespace Lt
open PySem PySem.Spec PyProof.Rows L2 Evl
open SX (S)
variable [ZI]
/-- the thread at hand doesn't stand yet -/
structure Want (held other one : List Nat) (a s t : Nat) : Prop where
  co : Come held other one a
  fs : (freeM other held)[a]? = some s
  ft : (freeM other held)[a + 1]? = some t
  ne : subM one s t ≠ subM other s t
theorem Want.at {held other one : List Nat} {a s t : Nat} (w : Want held other one a s t) : (freeM one held)[a]? = some s ∧ fstM (subM other s t) = one.getD s 0 ∧ (thM other held)[a]? = some (subM other s t) ∧ (thM one held)[a]? ≠ some (subM other s t) := by
  obtain ⟨s', f1, f2, _, _, _, f6⟩ := w.co.at
  rw [w.fs] at f1
  cases f1
  have hst := freeM_mono w.fs w.ft (Nat.lt_succ_self _)
  have ht := (freeM_at w.ft).1
  refine ⟨f2, by rw [fst_sub (by omega) ht, f6], thM_get.mpr ⟨s, t, w.fs, w.ft, rfl⟩, fun h => w.ne ((slice_th w.co w.fs w.ft).mpr h)⟩
end Lt
namespace Lt
open PySem PySem.Spec PyProof.Rows L2 Evl
open SX (S)
variable [ZI]
theorem eqD_refl {d : Dt} (h : cmpOk 60 d = true) : eqD d d = true := by
  have := (okD_toP _ _ h).shaped
  have := (Bool.and_eq_true _ _ ▸ (show ((toP d).canLay0 && decide ((toP d).depth ≤ 64)) = true from this) : _ ∧ _)
  exact PySem.SeqAt.eqv_refl _ this.1
theorem zNe_same {d : Dt} {R : DQ} (h : cmpOk 60 d = true) (k : R false (.bl false)) : zNe d d R := by
  unfold zNe zEqG
  split
  · simpa using k
  · simpa using k
  · simpa using k
  · exact ⟨h, h, by rw [eqD_refl h]; exact k⟩
theorem adjM_mem {row x : List Nat} (h : x ∈ adjM row) : ∃ a b, x = [a, b] ∧ a ∈ row ∧ b ∈ row ∧ a ≤ b := by
  unfold adjM at h
  obtain ⟨q, hq, rfl⟩ := List.mem_map.mp h
  obtain ⟨a, b⟩ := q
  have h1 := List.of_mem_zip hq
  have h2 := List.mem_of_mem_tail h1.2
  unfold pairM
  dsimp only
  split
  · exact ⟨a, b, rfl, h1.1, h2, by assumption⟩
  · exact ⟨b, a, rfl, h2, h1.1, by omega⟩
theorem turnsM_more {row held : List Nat} {q : Nat × Nat} (h : q ∈ turnsM row held) : q ∈ turnsM row [] := by
  obtain ⟨h1, h2, h3, h4⟩ := turnsM_mem h
  exact turnsM_of h1 h2 (by simp) h4
theorem Stir.none {held row r : List Nat} (s : Stir held row r) : Stir [] row r := by
  induction s with
  | refl => exact .refl
  | step s hm ih => exact .step ih (turnsM_more hm)
end Lt
namespace Lt
open PySem PySem.Spec PyProof.Rows L2 Evl
open SX (S)
variable [ZI]
/-- the signs of a row, rising -/
def sgM (l : List Nat) : List Nat := abcS.filter fun c => decide (c ∈ l)
theorem sgM_sub (l : List Nat) : (sgM l).Sublist abcS := List.filter_sublist
theorem sgM_mem {l : List Nat} {c : Nat} : c ∈ sgM l ↔ c ∈ abcS ∧ c ∈ l := by
  unfold sgM
  rw [List.mem_filter, decide_eq_true_eq]
theorem sorted_abc {l : List Nat} (h : l.Sublist abcS) : (l.map fun c => [c]).Pairwise (fun a b => leT a b = true) := by
  rw [List.pairwise_map]
  refine (List.Pairwise.sublist h (by decide : abcS.Pairwise fun a b => a ≤ b)).imp fun hab => ?_
  unfold leT
  refine decide_eq_true ?_
  rw [← List.not_lt]
  intro q
  rw [List.cons_lt_cons_iff] at q
  rcases q with q | ⟨_, q⟩
  · omega
  · exact absurd q (List.lt_irrefl _)
theorem setT_abc {l : List Nat} (h : ∀ c ∈ l, c ∈ abcS) : setT (l.map fun c => [c]) = (sgM l).map fun c => [c] := by
  refine List.Perm.eq_of_pairwise (le := fun a b : List Nat => leT a b = true) (fun a b _ _ h k => leT_anti h k) (sortT_sorted _) (sorted_abc (sgM_sub l)) ?_
  refine (List.perm_ext_iff_of_nodup (setT_nodup _) ?_).mpr fun x => ?_
  · rw [List.nodup_iff_pairwise_ne, List.pairwise_map]
    exact (List.Nodup.sublist (sgM_sub l) (by decide : abcS.Nodup)).imp fun h q => h (by injection q)
  · rw [setT_mem, List.mem_map, List.mem_map]
    constructor
    · rintro ⟨c, hc, rfl⟩
      exact ⟨c, sgM_mem.mpr ⟨h c hc, hc⟩, rfl⟩
    · rintro ⟨c, hc, rfl⟩
      exact ⟨c, (sgM_mem.mp hc).2, rfl⟩
end Lt
namespace Lt
open PySem PySem.Spec PyProof.Rows L2 Evl
open SX (S)
variable [ZI]
theorem sortN_pair (a b : Nat) : sortN [a, b] = pairM a b := by
  have p1 : (sortN [a, b]).Pairwise fun a b => a ≤ b := (List.pairwise_mergeSort (le := fun a b : Nat => decide (a ≤ b)) (fun a b c h k => by simp at *; omega) (fun a b => by simp; omega) [a, b]).imp fun h => of_decide_eq_true h
  refine List.Perm.eq_of_pairwise (le := fun a b : Nat => a ≤ b) (fun a b _ _ h k => by omega) p1 ?_ ?_
  · unfold pairM
    split
    · simpa
    · simp; omega
  · refine (List.mergeSort_perm ..).trans ?_
    unfold pairM
    split
    · exact .refl _
    · exact List.Perm.swap ..
end Lt
namespace Lt
open PySem PySem.Spec PyProof.Rows L2 Evl
open SX (S)
variable [ZI]
/-- a cut: free at both ends, pinned between -/
def CutOk (held w : List Nat) : Prop := ∃ x M y, w = x :: (M ++ [y]) ∧ x ∉ held ∧ y ∉ held ∧ ∀ c ∈ M, c ∈ held
theorem CutOk.rev {held w : List Nat} (h : CutOk held w) : CutOk held w.reverse := by
  obtain ⟨x, M, y, rfl, h1, h2, h3⟩ := h
  exact ⟨y, M.reverse, x, by simp, h2, h1, fun c hc => h3 c (List.mem_reverse.mp hc)⟩
end Lt
namespace Lt
open PySem PySem.Spec PyProof.Rows L2 Evl
open SX (S)
variable [ZI]
/-- a dict keyed by signs -/
def SgOk (fl : AL) : Prop := (fl.map (·.1)).Nodup ∧ ∀ p ∈ fl, ∃ c, c ∈ abcS ∧ p.1 = [c]
theorem SgOk.nil : SgOk [] := ⟨List.nodup_nil, fun _ h => nomatch h⟩
theorem SgOk.put {fl : AL} (h : SgOk fl) {c : Nat} (hc : c ∈ abcS) (d : Dt) : SgOk (putD fl [c] d) := by
  refine ⟨putD_keys h.1, fun p hp => ?_⟩
  rcases putD_mem hp with hp | rfl
  · exact h.2 p hp
  · exact ⟨c, hc, rfl⟩
theorem lkD_some {al : AL} {k : List Nat} : (lkD al k).isSome = true ↔ k ∈ al.map (·.1) := by
  rw [Option.isSome_iff_ne_none, ne_eq, lkD_none, List.mem_map]
  constructor
  · intro h
    apply Classical.byContradiction
    intro q
    exact h fun p hp e => q ⟨p, hp, e⟩
  · rintro ⟨p, hp, e⟩ h
    exact h p hp e
/-- the signs that a dict has, rising -/
def sgD (fl : AL) : List Nat := abcS.filter fun c => (lkD fl [c]).isSome
theorem sgD_sub (fl : AL) : (sgD fl).Sublist abcS := List.filter_sublist
theorem sgD_mem {fl : AL} {c : Nat} : c ∈ sgD fl ↔ c ∈ abcS ∧ [c] ∈ fl.map (·.1) := by
  unfold sgD
  rw [List.mem_filter, lkD_some]
theorem SgOk.keys {fl : AL} (h : SgOk fl) : sortT (fl.map (·.1)) = (sgD fl).map fun c => [c] := by
  refine List.Perm.eq_of_pairwise (le := fun a b : List Nat => leT a b = true) (fun a b _ _ h k => leT_anti h k) (sortT_sorted _) (sorted_abc (sgD_sub fl)) ?_
  refine (List.perm_ext_iff_of_nodup (by unfold sortT; exact (List.mergeSort_perm _ _).nodup_iff.mpr h.1) ?_).mpr fun x => ?_
  · rw [List.nodup_iff_pairwise_ne, List.pairwise_map]
    exact (List.Nodup.sublist (sgD_sub fl) (by decide : abcS.Nodup)).imp fun h q => h (by injection q)
  · unfold sortT
    rw [List.mem_mergeSort]
    constructor
    · intro hx
      obtain ⟨p, hp, rfl⟩ := List.mem_map.mp hx
      obtain ⟨c, hc, e⟩ := h.2 p hp
      rw [e] at hx ⊢
      exact List.mem_map.mpr ⟨c, sgD_mem.mpr ⟨hc, hx⟩, rfl⟩
    · intro hx
      obtain ⟨c, hc, rfl⟩ := List.mem_map.mp hx
      exact (sgD_mem.mp hc).2
theorem SgOk.len {fl : AL} (h : SgOk fl) : fl.length ≤ 8 := by
  have e := congrArg List.length h.keys
  rw [sortT_len, List.length_map, List.length_map] at e
  rw [e]
  exact (sgD_sub fl).length_le
theorem cntD_put {al : AL} {k k' : List Nat} {n : Nat} : cntD (putD al k (.int (n : Int))) k' = if k = k' then n else cntD al k' := by
  unfold cntD
  rw [lkD_put]
  by_cases c : k = k'
  · rw [if_pos c, if_pos c]; simp
  · rw [if_neg c, if_neg c]
def valN : Dt → Nat
  | .int i => i.toNat
  | _ => 0
/-- counts of pairs -/
def WebOk (al : AL) : Prop := (al.map (·.1)).Nodup ∧ al.length ≤ 100 ∧ ∀ p ∈ al, ∃ (a b n : Nat), p = ([a, b], .int (n : Int)) ∧ a ∈ abcS ∧ b ∈ abcS ∧ a ≤ b ∧ n ≤ 1000
def Nb (al : AL) (x y : Nat) : Prop := ∃ p ∈ al, 0 < valN p.2 ∧ x ∈ p.1 ∧ y ∈ p.1
inductive Hang (al : AL) (c : Nat) : Nat → Prop
  | self : Hang al c c
  | step {x y : Nat} : Hang al c x → Nb al x y → Hang al c y
open Classical in
/-- all signs that hang together with one -/
noncomputable def pieceM (al : AL) (c : Nat) : List Nat := abcS.filter fun x => decide (Hang al c x)
abbrev Mt (fl : AL) (x : Nat) : Prop := [x] ∈ fl.map (·.1)
theorem putD_key {al : AL} {k k' : List Nat} {d : Dt} : k' ∈ (putD al k d).map (·.1) ↔ k' = k ∨ k' ∈ al.map (·.1) := by
  rw [← lkD_some, lkD_put, ← lkD_some]
  by_cases c : k = k'
  · rw [if_pos c]; simp [c]
  · rw [if_neg c]
    constructor
    · exact .inr
    · rintro (h | h)
      · exact absurd h.symm c
      · exact h
theorem Mt_put {fl : AL} {c x : Nat} {d : Dt} : Mt (putD fl [c] d) x ↔ x = c ∨ Mt fl x := by
  unfold Mt
  rw [putD_key]
  constructor
  · rintro (h | h)
    · injection h with h; exact .inl h
    · exact .inr h
  · rintro (rfl | h)
    · exact .inl rfl
    · exact .inr h
theorem putD_new {fl : AL} {k : List Nat} {d : Dt} (h : k ∉ fl.map (·.1)) : (putD fl k d).length = fl.length + 1 := by
  have : (fl.any fun p => decide (p.1 = k)) = false := by
    rw [List.any_eq_false]
    intro p hp
    simp only [decide_eq_true_eq]
    exact fun e => h (List.mem_map.mpr ⟨p, hp, e⟩)
  unfold putD
  rw [this]
  simp
structure PInv (al : AL) (c : Nat) (busy : Nat → Prop) (fl : AL) (ws : List Nat) : Prop where
  ok : SgOk fl
  me : Mt fl c
  so : ∀ x, Mt fl x → Hang al c x
  wa : ∀ x ∈ ws, Mt fl x
  al : ∀ x y, Mt fl x → x ∉ ws → ¬ busy x → Nb al x y → Mt fl y
def msP (fl : AL) (ws : List Nat) : Nat := 2 * (8 - fl.length) + ws.length
theorem PInv.start {al : AL} {c : Nat} (hc : c ∈ abcS) : PInv al c (fun _ => False) [([c], .bl true)] [c] where
  ok := ⟨by simp, fun p hp => ⟨c, hc, by rw [List.mem_singleton.mp hp]⟩⟩
  me := by simp [Mt]
  so := fun x hx => by
    have : x = c := by simpa [Mt] using hx
    subst this; exact .self
  wa := fun x hx => by
    rw [List.mem_singleton.mp hx]; simp [Mt]
  al := fun x y hx hn _ _ => by
    have : x = c := by simpa [Mt] using hx
    subst this
    exact absurd (List.mem_singleton.mpr rfl) hn
theorem PInv.add {al : AL} {c x y : Nat} {fl : AL} {ws : List Nat} (h : PInv al c (· = x) fl ws) (hx : Mt fl x) (hn : Nb al x y) (hy : y ∈ abcS) (hm : ¬ Mt fl y) : PInv al c (· = x) (putD fl [y] (.bl true)) (ws ++ [y]) ∧ msP (putD fl [y] (.bl true)) (ws ++ [y]) < msP fl ws := by
  have ok2 := h.ok.put hy (.bl true)
  refine ⟨⟨ok2, Mt_put.mpr (.inr h.me), fun z hz => ?_, fun z hz => ?_, fun z w hz hw hb q => ?_⟩, ?_⟩
  · rcases Mt_put.mp hz with rfl | hz
    · exact .step (h.so x hx) hn
    · exact h.so z hz
  · rcases List.mem_append.mp hz with hz | hz
    · exact Mt_put.mpr (.inr (h.wa z hz))
    · exact Mt_put.mpr (.inl (List.mem_singleton.mp hz))
  · rcases Mt_put.mp hz with rfl | hz
    · exact absurd (List.mem_append_right _ (List.mem_singleton.mpr rfl)) hw
    · exact Mt_put.mpr (.inr (h.al z w hz (fun m => hw (List.mem_append_left _ m)) hb q))
  · have l1 := putD_new (d := .bl true) hm
    have l2 := ok2.len
    unfold msP
    rw [List.length_append, l1]
    rw [l1] at l2
    simp
    omega
theorem PInv.done {al : AL} {c x : Nat} {fl : AL} {ws : List Nat} (h : PInv al c (· = x) fl ws) (hx : ∀ y, Nb al x y → Mt fl y) : PInv al c (fun _ => False) fl ws :=
  ⟨h.ok, h.me, h.so, h.wa, fun y z hy hn _ q => by
    by_cases e : y = x
    · subst e; exact hx z q
    · exact h.al y z hy hn e q⟩
def lessD (al : AL) (k : List Nat) : AL := if cntD al k ≤ 1 then dropD al k else putD al k (.int ((cntD al k - 1 : Nat) : Int))
end Lt
namespace Lt
open PySem PySem.Spec PyProof.Rows L2 Evl
open SX (S)
variable [ZI]
/-- the signs of all pairs that are left, as they come -/
def flatM (al : AL) : List Nat := al.flatMap fun p => if 0 < valN p.2 then p.1 else []
def signsM (al : AL) : List Nat := sgM (flatM al)
theorem flatM_mem {al : AL} {c : Nat} : c ∈ flatM al ↔ ∃ p ∈ al, 0 < valN p.2 ∧ c ∈ p.1 := by
  unfold flatM
  rw [List.mem_flatMap]
  constructor
  · rintro ⟨p, hp, h⟩
    split at h
    · exact ⟨p, hp, by assumption, h⟩
    · simp at h
  · rintro ⟨p, hp, h1, h2⟩
    exact ⟨p, hp, by rw [if_pos h1]; exact h2⟩
theorem flatM_abc {al : AL} (h : WebOk al) {c : Nat} (hc : c ∈ flatM al) : c ∈ abcS := by
  obtain ⟨p, hp, _, h2⟩ := flatM_mem.mp hc
  obtain ⟨a, b, n, rfl, ha, hb, _⟩ := h.2.2 p hp
  simp at h2
  rcases h2 with rfl | rfl <;> assumption
theorem signsM_mem {al : AL} (h : WebOk al) {c : Nat} : c ∈ signsM al ↔ ∃ p ∈ al, 0 < valN p.2 ∧ c ∈ p.1 := by
  unfold signsM
  rw [sgM_mem, flatM_mem]
  exact ⟨fun q => q.2, fun q => ⟨flatM_abc h (flatM_mem.mpr q), q⟩⟩
/-- whether all pairs that are left can be gone through from a sign, where their counts let -/
noncomputable def goesB (al : AL) (c : Nat) : Bool := by
  classical
  exact decide (signsM al = [] ∨ c ∈ signsM al ∧ pieceM al c = signsM al)
theorem goesB_iff {al : AL} {c : Nat} : goesB al c = true ↔ signsM al = [] ∨ c ∈ signsM al ∧ pieceM al c = signsM al := by
  classical
  unfold goesB
  rw [decide_eq_true_eq]
end Lt
namespace Lt
open PySem PySem.Spec PyProof.Rows L2 Evl
open SX (S)
variable [ZI]
/-- x in a list of texts -/
theorem inV_strs (x : List Nat) : ∀ l : List (List Nat), inV (Tx x) (l.map fun y => Tx y) = decide (x ∈ l)
  | [] => rfl
  | y :: l => by
    have ih := inV_strs x l
    unfold inV at ih ⊢
    rw [List.map_cons, List.any_cons, ih]
    have e : eqV (Tx y) (Tx x) = decide (x = y) := by
      by_cases c : x = y
      · subst c; simp [eqV]
      · rw [decide_eq_false c]
        simp only [eqV]
        first
          | (rw [beq_eq_false_iff_ne]; exact fun z => c (S_inj z).symm)
          | (simp; exact fun z => c (S_inj z).symm)
    rw [e]
    by_cases c : x = y
    · simp [c]
    · simp [c]
theorem zInG_strs {neg : Bool} {x : List Nat} {l : List (List Nat)} {R : DQ} (k : R false (.bl (neg ^^ decide (x ∈ l)))) : zInG neg (.str x) (.lst (l.map .str)) R := by
  refine ⟨Tx x, rfl, l.map fun y => Tx y, by simp [List.map_map, Function.comp, fltD], ?_⟩
  rw [inV_strs]; exact k
theorem zIn_strs {x : List Nat} {l : List (List Nat)} {R : DQ} (k : R false (.bl (decide (x ∈ l)))) : zIn (.str x) (.lst (l.map .str)) R := zInG_strs (by rw [Bool.false_xor]; exact k)
theorem valN_int (n : Nat) : valN (.int (n : Int)) = n := by simp [valN]
def CntOk (al : AL) : Prop := al ≠ [] ∧ al.length ≤ 39 ∧ (∀ p ∈ al, ∃ (a b n : Nat), p = ([a, b], .int (n : Int)) ∧ a ∈ abcS ∧ b ∈ abcS ∧ a ≤ b ∧ 1 ≤ n ∧ n ≤ 39) ∧ (al.Pairwise fun p q => p.1 < q.1) ∧ (al.map fun p => valN p.2).sum ≤ 39
theorem CntOk.keys {al : AL} (h : CntOk al) : (al.map (·.1)).Nodup := by
  rw [List.nodup_iff_pairwise_ne, List.pairwise_map]
  exact h.2.2.2.1.imp fun {a b} q (e : a.1 = b.1) => List.lt_irrefl _ (e ▸ q)
theorem CntOk.web {al : AL} (h : CntOk al) : WebOk al := ⟨h.keys, by have := h.2.1; omega, fun p hp => by
  obtain ⟨a, b, n, e, ha, hb, hab, _, hn⟩ := h.2.2.1 p hp
  exact ⟨a, b, n, e, ha, hb, hab, by omega⟩⟩
theorem putD_fresh {al : AL} {k : List Nat} {d : Dt} (h : k ∉ al.map (·.1)) : putD al k d = al ++ [(k, d)] := by
  unfold putD
  rw [if_neg]
  rw [List.any_eq_true]
  rintro ⟨p, hp, e⟩
  exact h (List.mem_map.mpr ⟨p, hp, by simpa using e⟩)
end Lt
namespace Lt
open PySem PySem.Spec PyProof.Rows L2 Evl
open SX (S)
variable [ZI]
def edgM (al : AL) : List (List Nat) := al.flatMap fun p => List.replicate (valN p.2) p.1
theorem edg_cons (p : List Nat × Dt) (al : AL) : edgM (p :: al) = List.replicate (valN p.2) p.1 ++ edgM al := rfl
theorem edg_mem {al : AL} {k : List Nat} : k ∈ edgM al ↔ ∃ p ∈ al, 0 < valN p.2 ∧ p.1 = k := by
  unfold edgM
  rw [List.mem_flatMap]
  constructor
  · rintro ⟨p, hp, h⟩
    obtain ⟨h1, h2⟩ := List.mem_replicate.mp h
    exact ⟨p, hp, by omega, h2.symm⟩
  · rintro ⟨p, hp, h1, h2⟩
    exact ⟨p, hp, List.mem_replicate.mpr ⟨by omega, h2.symm⟩⟩
theorem cnt_val (al : AL) (k : List Nat) : cntD al k = match lkD al k with | some d => valN d | none => 0 := by
  unfold cntD
  split
  · rename_i i e; rw [e]; rfl
  · rename_i e
    cases h : lkD al k with
    | none => rfl
    | some d =>
      cases d <;> first | rfl | exact absurd h (e _)
theorem edg_count {al : AL} (h : (al.map (·.1)).Nodup) (k : List Nat) : (edgM al).count k = cntD al k := by
  rw [cnt_val]
  induction al with
  | nil => rfl
  | cons p al ih =>
    rw [List.map_cons] at h
    obtain ⟨h1, h2⟩ := List.nodup_cons.mp h
    rw [edg_cons, List.count_append, List.count_replicate, ih h2, lkD_cons]
    by_cases c : p.1 = k
    · have e : lkD al k = none := by
        rw [lkD_none]
        intro q hq e
        exact h1 (List.mem_map.mpr ⟨q, hq, e.trans c.symm⟩)
      rw [e, if_pos c]
      simp [c]
    · rw [if_neg c]
      have : (p.1 == k) = false := by simpa using c
      rw [this]
      simp
theorem nb_edg {al : AL} {x y : Nat} : Nb al x y ↔ ∃ k ∈ edgM al, x ∈ k ∧ y ∈ k := by
  constructor
  · rintro ⟨p, hp, h1, h2, h3⟩
    exact ⟨p.1, edg_mem.mpr ⟨p, hp, h1, rfl⟩, h2, h3⟩
  · rintro ⟨k, hk, h2, h3⟩
    obtain ⟨p, hp, h1, rfl⟩ := edg_mem.mp hk
    exact ⟨p, hp, h1, h2, h3⟩
inductive HangE (E : List (List Nat)) (c : Nat) : Nat → Prop
  | self : HangE E c c
  | step {x y : Nat} {k : List Nat} : HangE E c x → k ∈ E → x ∈ k → y ∈ k → HangE E c y
theorem hang_edg {al : AL} {c x : Nat} : Hang al c x ↔ HangE (edgM al) c x := by
  constructor
  · intro h
    induction h with
    | self => exact .self
    | step _ q ih =>
      obtain ⟨k, h1, h2, h3⟩ := nb_edg.mp q
      exact .step ih h1 h2 h3
  · intro h
    induction h with
    | self => exact .self
    | step _ h1 h2 h3 ih => exact .step ih (nb_edg.mpr ⟨_, h1, h2, h3⟩)
theorem HangE.mono {E E' : List (List Nat)} {c x : Nat} (h : HangE E c x) (k : ∀ e ∈ E, e ∈ E') : HangE E' c x := by
  induction h with
  | self => exact .self
  | step _ h1 h2 h3 ih => exact .step ih (k _ h1) h2 h3
theorem HangE.trans {E : List (List Nat)} {a b c : Nat} (h : HangE E a b) (k : HangE E b c) : HangE E a c := by
  induction k with
  | self => exact h
  | step _ h1 h2 h3 ih => exact .step ih h1 h2 h3
theorem HangE.symm {E : List (List Nat)} {a b : Nat} (h : HangE E a b) : HangE E b a := by
  induction h with
  | self => exact .self
  | step _ h1 h2 h3 ih => exact (HangE.step .self h1 h3 h2).trans ih
theorem mem_pairM {a b c : Nat} : c ∈ pairM a b ↔ c = a ∨ c = b := by
  unfold pairM
  split
  · simp
  · simp [or_comm]
theorem count_pairM (a b c : Nat) : (pairM a b).count c = (if a = c then 1 else 0) + if b = c then 1 else 0 := by
  have h : ∀ x y : Nat, [x, y].count c = (if x = c then 1 else 0) + if y = c then 1 else 0 := fun x y => by
    rw [List.count_cons, List.count_cons]
    by_cases h1 : x = c <;> by_cases h2 : y = c <;> simp [h1, h2]
  unfold pairM
  split
  · exact h a b
  · rw [h b a]; omega
theorem adj_hang : ∀ (l : List Nat) (a y : Nat), y ∈ a :: l → HangE (adjM (a :: l)) a y
  | [], a, y, h => by
    obtain rfl : y = a := by simpa using h
    exact .self
  | b :: l, a, y, h => by
    rcases List.mem_cons.mp h with rfl | h
    · exact .self
    · have h1 : HangE (adjM (a :: b :: l)) a b := .step .self (List.mem_cons_self ..) (mem_pairM.mpr (.inl rfl)) (mem_pairM.mpr (.inr rfl))
      exact h1.trans ((adj_hang l b y h).mono fun e he => List.mem_cons_of_mem _ he)
theorem adj_in {row : List Nat} {k : List Nat} (h : k ∈ adjM row) {c : Nat} (hc : c ∈ k) : c ∈ row := by
  obtain ⟨a, b, rfl, ha, hb, _⟩ := adjM_mem h
  simp at hc
  rcases hc with rfl | rfl <;> assumption
theorem adj_out : ∀ (l : List Nat) (a c : Nat), l ≠ [] → c ∈ a :: l → c ∈ (adjM (a :: l)).flatten
  | [], _, _, h, _ => absurd rfl h
  | b :: l, a, c, _, hc => by
    rw [adjM_cons, List.flatten_cons, List.mem_append, mem_pairM]
    rcases List.mem_cons.mp hc with rfl | hc
    · exact .inl (.inl rfl)
    · cases l with
      | nil =>
        have : c = b := by simpa using hc
        exact .inl (.inr this)
      | cons d l => exact .inr (adj_out (d :: l) b c (by simp) hc)
def lastM (row : List Nat) : Nat := row.getLastD 0
theorem adj_deg : ∀ (l : List Nat) (a c : Nat), (adjM (a :: l)).flatten.count c + (if a = c then 1 else 0) + (if lastM (a :: l) = c then 1 else 0) = 2 * (a :: l).count c
  | [], a, c => by
    show 0 + _ + (if a = c then 1 else 0) = _
    rw [List.count_cons]
    by_cases h : a = c
    · simp [h]
    · simp [h]
  | b :: l, a, c => by
    have ih := adj_deg l b c
    have e : lastM (a :: b :: l) = lastM (b :: l) := by simp [lastM]
    have e3 : (a :: b :: l).count c = (b :: l).count c + if a = c then 1 else 0 := by
      rw [List.count_cons]
      by_cases q : a = c <;> simp [q]
    rw [adjM_cons, List.flatten_cons, List.count_append, count_pairM, e, e3]
    omega
theorem flat_mem {E : List (List Nat)} {c : Nat} : c ∈ E.flatten ↔ ∃ k ∈ E, c ∈ k := List.mem_flatten
theorem signs_edg {al : AL} (h : WebOk al) {c : Nat} : c ∈ signsM al ↔ c ∈ (edgM al).flatten := by
  rw [signsM_mem h, flat_mem]
  constructor
  · rintro ⟨p, hp, h1, h2⟩
    exact ⟨p.1, edg_mem.mpr ⟨p, hp, h1, rfl⟩, h2⟩
  · rintro ⟨k, hk, h2⟩
    obtain ⟨p, hp, h1, rfl⟩ := edg_mem.mp hk
    exact ⟨p, hp, h1, h2⟩
def ConE (E : List (List Nat)) : Prop := ∀ x y, x ∈ E.flatten → y ∈ E.flatten → HangE E x y
theorem hang_in {E : List (List Nat)} {c x : Nat} (h : HangE E c x) : x = c ∨ x ∈ E.flatten := by
  induction h with
  | self => exact .inl rfl
  | step _ h1 _ h3 _ => exact .inr (flat_mem.mpr ⟨_, h1, h3⟩)
section
variable {al : AL} {E : List (List Nat)}
theorem web_signs (h : WebOk al) (p : (edgM al).Perm E) : signsM al = sgM E.flatten := by
  have e : signsM al = abcS.filter fun c => decide (c ∈ signsM al) := by
    unfold signsM sgM
    refine List.filter_congr fun c hc => ?_
    have : c ∈ abcS.filter (fun c => decide (c ∈ flatM al)) ↔ c ∈ flatM al := by
      rw [List.mem_filter]
      simp [hc]
    rw [decide_eq_decide]
    exact this.symm
  rw [e]
  unfold sgM
  refine List.filter_congr fun c _ => ?_
  rw [decide_eq_decide, signs_edg h]
  exact (p.flatten).mem_iff
theorem web_piece (h : WebOk al) (p : (edgM al).Perm E) (hc : ConE E) {c : Nat} (hm : c ∈ E.flatten) : pieceM al c = signsM al := by
  classical
  rw [web_signs h p]
  unfold pieceM sgM
  refine List.filter_congr fun x _ => ?_
  rw [decide_eq_decide, hang_edg]
  constructor
  · intro q
    rcases hang_in (q.mono fun e he => p.mem_iff.mp he) with rfl | q
    · exact hm
    · exact q
  · intro q
    exact (hc c x hm q).mono fun e he => p.mem_iff.mpr he
end
theorem con_row {a : Nat} {l : List Nat} {E : List (List Nat)} (h1 : ∀ k ∈ adjM (a :: l), k ∈ E) (h2 : ∀ k ∈ E, ∀ c ∈ k, c ∈ a :: l) : ConE E := by
  intro x y hx hy
  have key : ∀ z, z ∈ E.flatten → HangE E a z := fun z hz => by
    obtain ⟨k, hk, hz⟩ := flat_mem.mp hz
    exact (adj_hang l a z (h2 k hk z hz)).mono h1
  exact (key x hx).symm.trans (key y hy)
structure PosW (al : AL) (E : List (List Nat)) : Prop where
  nd : (al.map (·.1)).Nodup
  pos : ∀ p ∈ al, ∃ n : Nat, p.2 = .int ((n + 1 : Nat) : Int)
  pm : (edgM al).Perm E
def PairOk (k : List Nat) : Prop := ∃ a b, k = [a, b] ∧ a ∈ abcS ∧ b ∈ abcS ∧ a ≤ b
section
variable {al : AL} {E : List (List Nat)}
theorem PosW.int (h : PosW al E) : IntD al := fun p hp => let ⟨n, e⟩ := h.pos p hp; ⟨n + 1, e⟩
theorem PosW.cnt (h : PosW al E) (k : List Nat) : cntD al k = E.count k := by rw [← edg_count h.nd, h.pm.count_eq]
theorem PosW.key (h : PosW al E) {p : List Nat × Dt} (hp : p ∈ al) : p.1 ∈ E := by
  obtain ⟨n, e⟩ := h.pos p hp
  exact h.pm.mem_iff.mp (edg_mem.mpr ⟨p, hp, by rw [e, valN_int]; omega, rfl⟩)
theorem edg_len (al : AL) : (edgM al).length = (al.map fun p => valN p.2).sum := by
  induction al with
  | nil => rfl
  | cons p al ih => rw [edg_cons, List.length_append, ih]; simp
theorem PosW.len (h : PosW al E) : al.length ≤ E.length := by
  rw [← h.pm.length_eq, edg_len]
  have := h.pos
  clear h
  induction al with
  | nil => simp
  | cons p al ih =>
    obtain ⟨n, e⟩ := this p (List.mem_cons_self ..)
    have := ih fun q hq => this q (List.mem_cons_of_mem _ hq)
    rw [List.map_cons, List.sum_cons, List.length_cons, e, valN_int]
    omega
theorem PosW.val (h : PosW al E) {p : List Nat × Dt} (hp : p ∈ al) : ∃ n : Nat, p.2 = .int ((n + 1 : Nat) : Int) ∧ n + 1 ≤ E.length := by
  obtain ⟨n, e⟩ := h.pos p hp
  refine ⟨n, e, ?_⟩
  rw [← h.pm.length_eq, edg_len]
  have : valN p.2 ∈ al.map fun p => valN p.2 := List.mem_map.mpr ⟨p, hp, rfl⟩
  have key : ∀ (l : List Nat) (x : Nat), x ∈ l → x ≤ l.sum := fun l => by
    induction l with
    | nil => intro x h; simp at h
    | cons y l ih =>
      intro x h
      rw [List.sum_cons]
      rcases List.mem_cons.mp h with rfl | h
      · omega
      · have := ih x h; omega
  have := key _ _ this
  rw [e, valN_int] at this
  exact this
theorem PosW.web (h : PosW al E) (hl : E.length ≤ 100) (hE : ∀ k ∈ E, PairOk k) : WebOk al := by
  refine ⟨h.nd, Nat.le_trans h.len hl, fun p hp => ?_⟩
  obtain ⟨a, b, e, ha, hb, hab⟩ := hE _ (h.key hp)
  obtain ⟨n, e2, hn⟩ := h.val hp
  exact ⟨a, b, n + 1, Prod.ext e e2, ha, hb, hab, by omega⟩
theorem pos_nil : PosW [] [] := ⟨List.nodup_nil, (fun _ h => nomatch h), List.Perm.nil⟩
theorem PosW.inc (h : PosW al E) (k : List Nat) : PosW (incD al k) (k :: E) := by
  have hi := h.int
  have e := incD_eq hi k
  have e2 : incD al k = putD al k (.int ((cntD al k + 1 : Nat) : Int)) := by rw [e]; simp
  have nd : ((incD al k).map (·.1)).Nodup := by rw [e]; exact putD_keys h.nd
  refine ⟨nd, fun p hp => ?_, ?_⟩
  · rw [e2] at hp
    rcases putD_mem hp with hp | rfl
    · exact h.pos p hp
    · exact ⟨_, rfl⟩
  · refine List.perm_iff_count.mpr fun k' => ?_
    rw [edg_count nd, e2, cntD_put, List.count_cons, h.cnt, h.cnt]
    by_cases c : k = k'
    · subst c; simp
    · have : (k == k') = false := by simpa using c
      rw [this, if_neg c]; simp
theorem fold_pos : ∀ (l : List (List Nat)) {al : AL} {E : List (List Nat)}, PosW al E → PosW (l.foldl incD al) (l.reverse ++ E)
  | [], _, _, h => h
  | k :: l, al, E, h => by
    rw [List.foldl_cons, List.reverse_cons, List.append_assoc]
    exact fold_pos l (h.inc k)
theorem PosW.perm {E' : List (List Nat)} (h : PosW al E) (p : E.Perm E') : PosW al E' := ⟨h.nd, h.pos, h.pm.trans p⟩
theorem pairs_pos (row : List Nat) : PosW (pairsM row) (adjM row) := by
  rw [pairsM_adj]
  have := fold_pos (adjM row) pos_nil
  rw [List.append_nil] at this
  exact this.perm (List.reverse_perm _)
end
theorem adj_ok {row : List Nat} (h : ∀ c ∈ row, c ∈ abcS) : ∀ k ∈ adjM row, PairOk k := fun k hk => by
  obtain ⟨a, b, e, ha, hb, hab⟩ := adjM_mem hk
  exact ⟨a, b, e, h a ha, h b hb, hab⟩
theorem adj_len (row : List Nat) : (adjM row).length = row.length - 1 := by
  unfold adjM
  rw [List.length_map, List.length_zip, List.length_tail]
  omega
end Lt
namespace Lt
open PySem PySem.Spec PyProof.Rows L2 Evl
open SX (S)
variable [ZI]
theorem lastM_cons (a b : Nat) (l : List Nat) : lastM (a :: b :: l) = lastM (b :: l) := by simp [lastM]
theorem lastM_app (l : List Nat) (x : Nat) (r : List Nat) : lastM (l ++ x :: r) = lastM (x :: r) := by
  unfold lastM
  rw [List.getLastD_eq_getLast?, List.getLastD_eq_getLast?, List.getLast?_append, List.getLast?_eq_some_getLast (List.cons_ne_nil x r)]
  rfl
theorem pair_with {k : List Nat} (h : PairOk k) {c : Nat} (hc : c ∈ k) : ∃ o, k = pairM c o ∧ o ∈ abcS := by
  obtain ⟨a, b, rfl, ha, hb, hab⟩ := h
  simp at hc
  rcases hc with rfl | rfl
  · exact ⟨b, by unfold pairM; rw [if_pos hab], hb⟩
  · refine ⟨a, ?_, ha⟩
    unfold pairM
    split
    · have : c = a := by omega
      subst this; rfl
    · rfl
theorem take_out {E : List (List Nat)} {k : List Nat} (h : k ∈ E) : E.Perm (k :: E.erase k) := List.perm_cons_erase h
/-- from a sign on to another, as far as the odd signs let -/
theorem walk_odd : ∀ (n : Nat) (E : List (List Nat)) (c e : Nat), E.length ≤ n → (∀ k ∈ E, PairOk k) →
    (∀ x, E.flatten.count x % 2 = ((if c = x then 1 else 0) + if e = x then 1 else 0) % 2) → ∃ t F, E.Perm (adjM (c :: t) ++ F) ∧ lastM (c :: t) = e
  | n, E, c, e, hn, hE, hp => by
    by_cases hce : c = e
    · subst hce
      exact ⟨[], E, .refl _, rfl⟩
    · have h1 := hp c
      rw [if_pos rfl, if_neg (fun z => hce z.symm)] at h1
      have hm : c ∈ E.flatten := List.count_pos_iff.mp (by omega)
      obtain ⟨k, hk, hck⟩ := flat_mem.mp hm
      obtain ⟨o, rfl, ho⟩ := pair_with (hE k hk) hck
      have pe := take_out hk
      have hl := List.length_erase_of_mem hk
      have hpos := List.length_pos_of_mem hk
      cases n with
      | zero => omega
      | succ n =>
        obtain ⟨t, F, q1, q2⟩ := walk_odd n (E.erase (pairM c o)) o e (by omega) (fun k h => hE k (List.mem_of_mem_erase h)) (fun x => by
          have h2 := hp x
          have h3 := (pe.flatten).count_eq x
          rw [List.flatten_cons, List.count_append, count_pairM] at h3
          omega)
        refine ⟨o :: t, F, pe.trans ?_, by rw [lastM_cons]; exact q2⟩
        rw [adjM_cons]
        exact q1.cons _
/-- round about and back -/
theorem walk_round {E : List (List Nat)} {v : Nat} (hE : ∀ k ∈ E, PairOk k) (hp : ∀ x, E.flatten.count x % 2 = 0) (hv : v ∈ E.flatten) : ∃ t F, t ≠ [] ∧ E.Perm (adjM (v :: t) ++ F) ∧ lastM (v :: t) = v := by
  obtain ⟨k, hk, hvk⟩ := flat_mem.mp hv
  obtain ⟨o, rfl, ho⟩ := pair_with (hE k hk) hvk
  have pe := take_out hk
  obtain ⟨t, F, q1, q2⟩ := walk_odd _ (E.erase (pairM v o)) o v (Nat.le_refl _) (fun k h => hE k (List.mem_of_mem_erase h)) (fun x => by
    have h2 := hp x
    have h3 := (pe.flatten).count_eq x
    rw [List.flatten_cons, List.count_append, count_pairM] at h3
    omega)
  refine ⟨o :: t, F, by simp, pe.trans ?_, by rw [lastM_cons]; exact q2⟩
  rw [adjM_cons]
  exact q1.cons _
theorem last_split {t : List Nat} (h : t ≠ []) : ∃ s, t = s ++ [lastM t] := by
  refine ⟨t.dropLast, ?_⟩
  unfold lastM
  rw [List.getLastD_eq_getLast?, List.getLast?_eq_some_getLast h]
  exact (List.dropLast_concat_getLast h).symm
/-- a round put in -/
theorem splice {A B t : List Nat} {v : Nat} (ht : t ≠ []) (hl : lastM (v :: t) = v) : adjM (A ++ v :: (t ++ B)) = adjM (A ++ [v]) ++ (adjM (v :: t) ++ adjM (v :: B)) ∧ lastM (A ++ v :: (t ++ B)) = lastM (A ++ v :: B) := by
  obtain ⟨s, hs⟩ := last_split ht
  have e : lastM t = v := by
    cases t with
    | nil => exact absurd rfl ht
    | cons x t => rw [lastM_cons] at hl; exact hl
  rw [e] at hs
  subst hs
  have e2 : v :: (s ++ [v] ++ B) = (v :: s) ++ v :: B := by simp
  refine ⟨?_, ?_⟩
  · rw [adjM_app A v (s ++ [v] ++ B), e2, adjM_app (v :: s) v B]
    rfl
  · rw [lastM_app, lastM_app, e2, lastM_app]
theorem reach {E R : List (List Nat)} {row : List Nat} {c x : Nat} (hr : E.Perm (adjM row ++ R)) (hc : c ∈ row) (h : HangE E c x) : x ∈ row ∨ ∃ v ∈ row, v ∈ R.flatten := by
  induction h with
  | self => exact .inl hc
  | step _ hk h2 h3 ih =>
    rcases ih with ih | ih
    · rcases List.mem_append.mp (hr.mem_iff.mp hk) with q | q
      · exact .inl (adj_in q h3)
      · exact .inr ⟨_, ih, flat_mem.mpr ⟨_, q, h2⟩⟩
    · exact .inr ih
theorem round_all : ∀ (n : Nat) (E R : List (List Nat)) (row : List Nat) (c : Nat), R.length ≤ n → (∀ k ∈ E, PairOk k) → E.Perm (adjM row ++ R) → c ∈ row → (∀ x, R.flatten.count x % 2 = 0) → (∀ x ∈ E.flatten, HangE E c x) →
    ∃ row', E.Perm (adjM row') ∧ row'.head? = row.head? ∧ lastM row' = lastM row
  | n, E, R, row, c, hn, hE, hp, hc, he, hh => by
    cases R with
    | nil => exact ⟨row, by simpa using hp, rfl, rfl⟩
    | cons k R =>
      have hkE : k ∈ E := hp.mem_iff.mpr (List.mem_append_right _ (List.mem_cons_self ..))
      have hv : ∃ v ∈ row, v ∈ (k :: R).flatten := by
        obtain ⟨a, b, hk, _⟩ := hE k hkE
        have ha : a ∈ k := by rw [hk]; simp
        rcases reach hp hc (hh a (flat_mem.mpr ⟨k, hkE, ha⟩)) with q | q
        · exact ⟨a, q, flat_mem.mpr ⟨k, List.mem_cons_self .., ha⟩⟩
        · exact q
      obtain ⟨v, hv1, hv2⟩ := hv
      obtain ⟨t, F, ht, q1, q2⟩ := walk_round (fun k' h => hE k' (hp.mem_iff.mpr (List.mem_append_right _ h))) he hv2
      obtain ⟨A, B, rfl⟩ := List.append_of_mem hv1
      obtain ⟨s1, s2⟩ := splice (A := A) (B := B) ht q2
      have hlen := q1.length_eq
      have hpos : 0 < (adjM (v :: t)).length := by
        rw [adj_len]
        cases t with
        | nil => exact absurd rfl ht
        | cons x t => simp
      rw [List.length_append] at hlen
      cases n with
      | zero => simp at hn
      | succ n =>
        have heF : ∀ x, F.flatten.count x % 2 = 0 := fun x => by
          have h1 := he x
          have h2 := (q1.flatten).count_eq x
          rw [List.flatten_append, List.count_append] at h2
          have h3 := adj_deg t v x
          rw [q2] at h3
          omega
        have hp2 : E.Perm (adjM (A ++ v :: (t ++ B)) ++ F) := by
          rw [s1]
          refine hp.trans ?_
          rw [adjM_app A v B]
          have p1 : ((adjM (A ++ [v]) ++ adjM (v :: B)) ++ (k :: R)).Perm ((adjM (A ++ [v]) ++ adjM (v :: B)) ++ (adjM (v :: t) ++ F)) := q1.append_left _
          refine p1.trans ?_
          have p2 : (adjM (v :: B) ++ (adjM (v :: t) ++ F)).Perm (adjM (v :: t) ++ adjM (v :: B) ++ F) := by
            rw [← List.append_assoc]
            exact List.perm_append_comm.append_right _
          have := p2.append_left (adjM (A ++ [v]))
          simpa [List.append_assoc] using this
        obtain ⟨row', r1, r2, r3⟩ := round_all n E F (A ++ v :: (t ++ B)) c (by omega) hE hp2 (by
          rcases List.mem_append.mp hc with q | q
          · exact List.mem_append_left _ q
          · refine List.mem_append_right _ ?_
            rcases List.mem_cons.mp q with q | q
            · rw [q]; exact List.mem_cons_self ..
            · exact List.mem_cons_of_mem _ (List.mem_append_right _ q)) heF hh
        refine ⟨row', r1, r2.trans ?_, r3.trans s2⟩
        cases A <;> rfl
/-- EULER: from c to e through all pairs -/
theorem euler {E : List (List Nat)} {c e : Nat} (hE : ∀ k ∈ E, PairOk k) (hp : ∀ x, E.flatten.count x % 2 = ((if c = x then 1 else 0) + if e = x then 1 else 0) % 2) (hh : ∀ x ∈ E.flatten, HangE E c x) :
    ∃ t, E.Perm (adjM (c :: t)) ∧ lastM (c :: t) = e := by
  obtain ⟨t, F, q1, q2⟩ := walk_odd _ E c e (Nat.le_refl _) hE hp
  obtain ⟨row', r1, r2, r3⟩ := round_all _ E F (c :: t) c (Nat.le_refl _) hE q1 (List.mem_cons_self ..) (fun x => by
    have h1 := hp x
    have h2 := (q1.flatten).count_eq x
    rw [List.flatten_append, List.count_append] at h2
    have h3 := adj_deg t c x
    rw [q2] at h3
    omega) hh
  cases row' with
  | nil => simp at r2
  | cons a t' =>
    have : a = c := by simpa using r2
    subst this
    exact ⟨t', r1, r3.trans q2⟩
end Lt
namespace Lt
open PySem PySem.Spec PyProof.Rows L2 Evl
open SX (S)
variable [ZI]
theorem lkD_drop {k k' : List Nat} : ∀ {al : AL}, lkD (dropD al k) k' = if k = k' then none else lkD al k'
  | [] => by simp [dropD, lkD]
  | p :: al => by
    have ih := lkD_drop (k := k) (k' := k') (al := al)
    unfold dropD at ih ⊢
    rw [List.filter_cons, lkD_cons]
    by_cases c : p.1 = k
    · rw [if_neg (by simp [c]), ih]
      by_cases d : k = k'
      · rw [if_pos d, if_pos d]
      · rw [if_neg d, if_neg d, if_neg (fun z => d (c.symm.trans z))]
    · rw [if_pos (by simp [c]), lkD_cons, ih]
      by_cases d : k = k'
      · subst d; rw [if_pos rfl, if_neg c, if_pos rfl]
      · rw [if_neg d, if_neg d]
theorem cntD_drop {al : AL} {k k' : List Nat} : cntD (dropD al k) k' = if k = k' then 0 else cntD al k' := by
  rw [cnt_val, cnt_val, lkD_drop]
  by_cases d : k = k'
  · rw [if_pos d, if_pos d]
  · rw [if_neg d, if_neg d]
theorem PosW.less {al : AL} {E : List (List Nat)} (h : PosW al E) {k : List Nat} (hk : k ∈ E) : PosW (lessD al k) (E.erase k) := by
  have hc := h.cnt k
  have hpos : 0 < E.count k := List.count_pos_iff.mpr hk
  unfold lessD
  by_cases q : cntD al k ≤ 1
  · rw [if_pos q]
    have nd : ((dropD al k).map (·.1)).Nodup := by
      refine List.Nodup.sublist (List.Sublist.map _ ?_) h.nd
      unfold dropD
      exact List.filter_sublist
    refine ⟨nd, fun p hp => h.pos p (by unfold dropD at hp; exact (List.mem_filter.mp hp).1), List.perm_iff_count.mpr fun k' => ?_⟩
    rw [edg_count nd, cntD_drop, List.count_erase, h.cnt]
    by_cases d : k = k'
    · subst d; simp; omega
    · have : (k == k') = false := by simpa using d
      have : (k' == k) = false := by simpa using fun z => d z.symm
      simp [d, *]
  · rw [if_neg q]
    obtain ⟨m, hm⟩ : ∃ m, cntD al k = m + 2 := ⟨cntD al k - 2, by omega⟩
    rw [hm]
    have nd : ((putD al k (.int ((m + 2 - 1 : Nat) : Int))).map (·.1)).Nodup := putD_keys h.nd
    refine ⟨nd, fun p hp => ?_, List.perm_iff_count.mpr fun k' => ?_⟩
    · rcases putD_mem hp with hp | rfl
      · exact h.pos p hp
      · exact ⟨m, rfl⟩
    · rw [edg_count nd, cntD_put, List.count_erase, h.cnt]
      by_cases d : k = k'
      · subst d; simp; omega
      · have : (k == k') = false := by simpa using d
        have : (k' == k) = false := by simpa using fun z => d z.symm
        simp [d, *]
def othM (c : Nat) (k : List Nat) : Nat := if k.headD 0 = c then k.getD 1 0 else k.headD 0
theorem oth_pair (c o : Nat) : othM c (pairM c o) = o := by
  unfold othM pairM
  by_cases h : c ≤ o
  · rw [if_pos h]; simp
  · rw [if_neg h]
    have : o ≠ c := by omega
    simp [this]
def nbrA (al : AL) (c : Nat) : List Nat := al.flatMap fun p => if c ∈ p.1 then [othM c p.1] else []
def nbrM (al : AL) (c : Nat) : List Nat := sgM (nbrA al c)
noncomputable def nextM (al : AL) (c : Nat) : List Nat := (nbrM al c).filter fun o => goesB (lessD al (pairM c o)) o
section
variable {al : AL} {E : List (List Nat)}
theorem nbrA_abc (h : PosW al E) (hE : ∀ k ∈ E, PairOk k) {c o : Nat} (ho : o ∈ nbrA al c) : o ∈ abcS ∧ pairM c o ∈ E := by
  unfold nbrA at ho
  obtain ⟨p, hp, ho⟩ := List.mem_flatMap.mp ho
  split at ho
  · rename_i hc
    obtain ⟨o', e, ho'⟩ := pair_with (hE _ (h.key hp)) hc
    have hk := h.key hp
    rw [e] at ho hk
    rw [oth_pair] at ho
    obtain rfl : o = o' := by simpa using ho
    exact ⟨ho', hk⟩
  · simp at ho
theorem nbr_mem (h : PosW al E) (hE : ∀ k ∈ E, PairOk k) {c o : Nat} : o ∈ nbrM al c ↔ o ∈ abcS ∧ pairM c o ∈ E := by
  unfold nbrM
  rw [sgM_mem]
  constructor
  · exact fun q => nbrA_abc h hE q.2
  · rintro ⟨h1, h2⟩
    refine ⟨h1, ?_⟩
    obtain ⟨p, hp, _, e⟩ := edg_mem.mp (h.pm.mem_iff.mpr h2)
    unfold nbrA
    refine List.mem_flatMap.mpr ⟨p, hp, ?_⟩
    rw [e, if_pos (mem_pairM.mpr (.inl rfl)), oth_pair]
    simp
theorem nextM_sub (al : AL) (c : Nat) : (nextM al c).Sublist abcS := List.filter_sublist.trans (sgM_sub _)
/-- the signs that may come next: those with which a row goes on -/
theorem next_mem (h : PosW al E) (hl : E.length ≤ 100) (hE : ∀ k ∈ E, PairOk k) {c o : Nat} {t : List Nat} (hr : E.Perm (adjM (c :: t))) : o ∈ nextM al c ↔ o ∈ abcS ∧ ∃ t', E.Perm (adjM (c :: o :: t')) := by
  unfold nextM
  rw [List.mem_filter, nbr_mem h hE]
  constructor
  · rintro ⟨⟨h1, h2⟩, h3⟩
    refine ⟨h1, ?_⟩
    have hp := h.less h2
    have hE' : ∀ k ∈ E.erase (pairM c o), PairOk k := fun k hk => hE k (List.mem_of_mem_erase hk)
    have hw := hp.web (by rw [List.length_erase_of_mem h2]; omega) hE'
    have pe := take_out h2
    obtain ⟨t', q1, _⟩ := euler (E := E.erase (pairM c o)) (c := o) (e := lastM (c :: t)) hE' (fun x => by
      have e1 := adj_deg t c x
      have e2 := (hr.flatten).count_eq x
      have e3 := (pe.flatten).count_eq x
      rw [List.flatten_cons, List.count_append, count_pairM] at e3
      omega) (fun x hx => by
      have hs : x ∈ signsM (lessD al (pairM c o)) := (signs_edg hw).mpr ((hp.pm.flatten).mem_iff.mpr hx)
      rcases goesB_iff.mp h3 with q | ⟨_, q⟩
      · rw [q] at hs; simp at hs
      · rw [← q] at hs
        classical
        unfold pieceM at hs
        have := (List.mem_filter.mp hs).2
        rw [decide_eq_true_eq, hang_edg] at this
        exact this.mono fun e he => hp.pm.mem_iff.mp he)
    refine ⟨t', pe.trans ?_⟩
    rw [adjM_cons]
    exact q1.cons _
  · rintro ⟨h1, t', q⟩
    rw [adjM_cons] at q
    have h2 : pairM c o ∈ E := q.mem_iff.mpr (List.mem_cons_self ..)
    refine ⟨⟨h1, h2⟩, ?_⟩
    have hp := h.less h2
    have hE' : ∀ k ∈ E.erase (pairM c o), PairOk k := fun k hk => hE k (List.mem_of_mem_erase hk)
    have hw := hp.web (by rw [List.length_erase_of_mem h2]; omega) hE'
    have pe : (E.erase (pairM c o)).Perm (adjM (o :: t')) := (List.perm_cons (pairM c o)).mp ((take_out h2).symm.trans q)
    have pm := hp.pm.trans pe
    rw [goesB_iff]
    cases t' with
    | nil =>
      left
      rw [web_signs hw pm]
      unfold sgM
      exact List.filter_eq_nil_iff.mpr fun x _ => by simp [adjM]
    | cons d t' =>
      right
      have hm : o ∈ (adjM (o :: d :: t')).flatten := adj_out (d :: t') o o (by simp) (List.mem_cons_self ..)
      have hc : ConE (adjM (o :: d :: t')) := con_row (fun _ h => h) fun k hk c hc => adj_in hk hc
      exact ⟨(signs_edg hw).mpr ((pm.flatten).mem_iff.mpr hm), web_piece hw pm hc hm⟩
theorem adj_abc {c : Nat} {t : List Nat} (hE : ∀ k ∈ adjM (c :: t), PairOk k) : ∀ o ∈ t, o ∈ abcS := by
  induction t generalizing c with
  | nil => simp
  | cons b t ih =>
    intro o ho
    rcases List.mem_cons.mp ho with rfl | ho
    · obtain ⟨x, y, e, hx, hy, _⟩ := hE (pairM c o) (List.mem_cons_self ..)
      have : o ∈ pairM c o := mem_pairM.mpr (.inr rfl)
      rw [e] at this
      simp at this
      rcases this with rfl | rfl <;> assumption
    · exact ih (fun k hk => hE k (List.mem_cons_of_mem _ hk)) o ho
end
end Lt
namespace Lt
open PySem PySem.Spec PyProof.Rows L2 Evl
open SX (S)
variable [ZI]
/-- rows of the same pairs, first and last sign -/
def KinM (row other : List Nat) : Prop := row.length = other.length ∧ row.head? = other.head? ∧ (adjM row).Perm (adjM other)
theorem KinM.refl (row : List Nat) : KinM row row := ⟨rfl, rfl, .refl _⟩
theorem KinM.symm {a b : List Nat} (h : KinM a b) : KinM b a := ⟨h.1.symm, h.2.1.symm, h.2.2.symm⟩
theorem KinM.trans {a b c : List Nat} (h : KinM a b) (k : KinM b c) : KinM a c := ⟨h.1.trans k.1, h.2.1.trans k.2.1, h.2.2.trans k.2.2⟩
theorem KinM.abc {a b : List Nat} (h : KinM a b) (hb : ∀ c ∈ a, c ∈ abcS) : ∀ c ∈ b, c ∈ abcS := by
  cases b with
  | nil => simp
  | cons y b =>
    cases a with
    | nil => have := h.1; simp at this
    | cons x a =>
      have e : x = y := by simpa using h.2.1
      subst e
      intro c hc
      rcases List.mem_cons.mp hc with rfl | hc
      · exact hb c (List.mem_cons_self ..)
      · exact adj_abc (fun k hk => adj_ok hb k (h.2.2.mem_iff.mpr hk)) c hc
theorem KinM.row {a b : List Nat} (h : KinM a b) (ha : RowOk a) : RowOk b := ⟨by rw [← h.1]; exact ha.1, by rw [← h.1]; exact ha.2.1, h.abc ha.2.2⟩
end Lt
namespace Lt
open PySem PySem.Spec PyProof.Rows L2 Evl
open SX (S)
variable [ZI]
theorem PosW.add {al : AL} {E : List (List Nat)} (h : PosW al E) (k : List Nat) (n : Nat) : PosW (putD al k (.int ((cntD al k + (n + 1) : Nat) : Int))) (List.replicate (n + 1) k ++ E) := by
  have nd : ((putD al k (.int ((cntD al k + (n + 1) : Nat) : Int))).map (·.1)).Nodup := putD_keys h.nd
  refine ⟨nd, fun p hp => ?_, List.perm_iff_count.mpr fun k' => ?_⟩
  · rcases putD_mem hp with hp | rfl
    · exact h.pos p hp
    · exact ⟨cntD al k + n, rfl⟩
  · rw [edg_count nd, cntD_put, List.count_append, List.count_replicate, h.cnt, h.cnt]
    by_cases c : k = k'
    · subst c; simp; omega
    · have : (k == k') = false := by simpa using c
      rw [this, if_neg c]; simp
end Lt
namespace Lt
open PySem PySem.Spec PyProof.Rows L2 Evl
open SX (S)
variable [ZI]
/-- all texts of so many signs of some -/
def allW (S : List Nat) : Nat → List (List Nat)
  | 0 => [[]]
  | n + 1 => S.flatMap fun c => (allW S n).map (c :: ·)
theorem allW_mem {S : List Nat} : ∀ {n : Nat} {r : List Nat}, r ∈ allW S n ↔ r.length = n ∧ ∀ c ∈ r, c ∈ S
  | 0, r => by
    simp [allW]
    rintro rfl; simp
  | n + 1, r => by
    have ih := fun r => allW_mem (S := S) (n := n) (r := r)
    simp only [allW, List.mem_flatMap, List.mem_map]
    constructor
    · rintro ⟨c, hc, t, ht, rfl⟩
      obtain ⟨h1, h2⟩ := (ih t).mp ht
      exact ⟨by simp [h1], fun x hx => (List.mem_cons.mp hx).elim (fun e => e ▸ hc) (h2 x)⟩
    · rintro ⟨h1, h2⟩
      cases r with
      | nil => simp at h1
      | cons c t => exact ⟨c, h2 c (List.mem_cons_self ..), t, (ih t).mpr ⟨by simpa using h1, fun x hx => h2 x (List.mem_cons_of_mem _ hx)⟩, rfl⟩
theorem allW_len (S : List Nat) : ∀ n, (allW S n).length = S.length ^ n
  | 0 => rfl
  | n + 1 => by
    have ih := allW_len S n
    simp only [allW, List.length_flatMap, List.length_map, ih]
    rw [List.map_const', List.sum_replicate_nat, Nat.pow_succ, Nat.mul_comm]
theorem len_leG {α : Type} [DecidableEq α] : ∀ {l m : List α}, l.Nodup → (∀ x ∈ l, x ∈ m) → l.length ≤ m.length
  | [], _, _, _ => Nat.zero_le _
  | x :: l, m, hl, h => by
    obtain ⟨h1, h2⟩ := List.nodup_cons.mp hl
    have hx := h x (List.mem_cons_self ..)
    have := len_leG (m := m.erase x) h2 fun y hy => (List.mem_erase_of_ne (fun e : y = x => h1 (by rw [← e]; exact hy))).mpr (h y (List.mem_cons_of_mem _ hy))
    rw [List.length_erase_of_mem hx] at this
    have := List.length_pos_of_mem hx
    rw [List.length_cons]
    omega
/-- going through all turns: found so far, waiting; busy: the row at hand is not yet gone through -/
structure KInv (held row : List Nat) (S : List Nat) (busy : List Nat → Prop) (fl : AL) (ws : List (List Nat)) : Prop where
  nd : (fl.map (·.1)).Nodup
  me : row ∈ fl.map (·.1)
  so : ∀ r ∈ fl.map (·.1), Stir held row r
  ab : ∀ r ∈ fl.map (·.1), r.length = row.length ∧ ∀ c ∈ r, c ∈ S
  wa : ∀ r ∈ ws, r ∈ fl.map (·.1)
  al : ∀ r ∈ fl.map (·.1), r ∉ ws → ¬ busy r → ∀ q ∈ turnsM r held, turnM r q.1 q.2 ∈ fl.map (·.1)
def msK (S : List Nat) (n : Nat) (fl : AL) (ws : List (List Nat)) : Nat := 2 * (S.length ^ n - fl.length) + ws.length
section
variable {held row S : List Nat} {fl : AL} {ws : List (List Nat)}
theorem KInv.start (hS : ∀ c ∈ row, c ∈ S) {d : Dt} : KInv held row S (fun _ => False) [(row, d)] [row] where
  nd := by simp
  me := by simp
  so := fun r hr => by
    obtain rfl : r = row := by simpa using hr
    exact .refl
  ab := fun r hr => by
    obtain rfl : r = row := by simpa using hr
    exact ⟨rfl, hS⟩
  wa := fun r hr => by simpa using hr
  al := fun r hr hn _ _ _ => absurd (by simpa using hr) hn
theorem KInv.len {b : List Nat → Prop} (h : KInv held row S b fl ws) : fl.length ≤ S.length ^ row.length := by
  have := len_leG (m := allW S row.length) h.nd fun r hr => allW_mem.mpr (h.ab r hr)
  rw [List.length_map, allW_len] at this
  exact this
theorem KInv.add {r o : List Nat} {d : Dt} (h : KInv held row S (· = r) fl ws) (hr : r ∈ fl.map (·.1)) {q : Nat × Nat} (hq : q ∈ turnsM r held) (ho : o = turnM r q.1 q.2) (hn : o ∉ fl.map (·.1)) : KInv held row S (· = r) (putD fl o d) (ws ++ [o]) ∧ msK S row.length (putD fl o d) (ws ++ [o]) < msK S row.length fl ws := by
  have hst : Stir held row o := ho ▸ .step (h.so r hr) (show (q.1, q.2) ∈ _ from hq)
  have key : ∀ {x}, x ∈ (putD fl o d).map (·.1) ↔ x = o ∨ x ∈ fl.map (·.1) := putD_key
  have hab : o.length = row.length ∧ ∀ c ∈ o, c ∈ S := by
    refine ⟨hst.len, fun c hc => ?_⟩
    have h2 : c ∈ r := by
      have : Stir held r o := ho ▸ .step .refl (show (q.1, q.2) ∈ _ from hq)
      exact this.mem hc
    exact (h.ab r hr).2 c h2
  have h2 : KInv held row S (· = r) (putD fl o d) (ws ++ [o]) := by
    refine ⟨putD_keys h.nd, key.mpr (.inr h.me), fun x hx => ?_, fun x hx => ?_, fun x hx => ?_, fun x hx hw hb q2 hq2 => ?_⟩
    · rcases key.mp hx with rfl | hx
      · exact hst
      · exact h.so x hx
    · rcases key.mp hx with rfl | hx
      · exact hab
      · exact h.ab x hx
    · rcases List.mem_append.mp hx with hx | hx
      · exact key.mpr (.inr (h.wa x hx))
      · exact key.mpr (.inl (List.mem_singleton.mp hx))
    · rcases key.mp hx with rfl | hx
      · exact absurd (List.mem_append_right _ (List.mem_singleton.mpr rfl)) hw
      · exact key.mpr (.inr (h.al x hx (fun m => hw (List.mem_append_left _ m)) hb q2 hq2))
  refine ⟨h2, ?_⟩
  have l1 := h2.len
  rw [putD_fresh hn] at l1
  unfold msK
  rw [putD_fresh hn, List.length_append, List.length_append]
  rw [List.length_append] at l1
  simp at l1 ⊢
  omega
theorem KInv.done {r : List Nat} (h : KInv held row S (· = r) fl ws) (hr : ∀ q ∈ turnsM r held, turnM r q.1 q.2 ∈ fl.map (·.1)) : KInv held row S (fun _ => False) fl ws :=
  ⟨h.nd, h.me, h.so, h.ab, h.wa, fun y hy hn _ q hq => by
    by_cases e : y = r
    · subst e; exact hr q hq
    · exact h.al y hy hn e q hq⟩
end
end Lt
namespace Lt
open PySem PySem.Spec PyProof.Rows L2 Evl
open SX (S)
variable [ZI]
theorem kin_app {A B C : List Nat} (h : KinM B C) : KinM (A ++ B) (A ++ C) := by
  cases B with
  | nil => obtain rfl : C = [] := List.eq_nil_of_length_eq_zero (by simpa using h.1.symm)
           exact .refl _
  | cons x B =>
    cases C with
    | nil => have := h.1; simp at this
    | cons y C =>
      have e : x = y := by simpa using h.2.1
      subst e
      refine ⟨by have := h.1; simp at this ⊢; exact this, by cases A <;> rfl, ?_⟩
      rw [adjM_app A x B, adjM_app A x C]
      exact List.Perm.append (.refl _) h.2.2
/-- a piece of the way: signs so far, pairs left -/
abbrev PcR := List Nat × AL
def GoodR (row : List Nat) (p : PcR) : Prop := ∃ q c t, p.1 = q ++ [c] ∧ PosW p.2 (adjM (c :: t)) ∧ KinM row (q ++ c :: t)
noncomputable def moreR (p : PcR) : List PcR := (nextM p.2 (lastM p.1)).map fun c => (p.1 ++ [c], lessD p.2 (pairM (lastM p.1) c))
noncomputable def stepR (f : List PcR) : List PcR := f.flatMap moreR
noncomputable def goR (row : List Nat) : Nat → List PcR
  | 0 => [(row.take 1, pairsM row)]
  | n + 1 => stepR (goR row n)
theorem lt_app : ∀ {a b x y : List Nat}, a.length = b.length → a < b → a ++ x < b ++ y
  | [], b, x, y, hl, h => by
    obtain rfl : b = [] := List.eq_nil_of_length_eq_zero (by simpa using hl.symm)
    exact absurd h (List.lt_irrefl _)
  | c :: a, [], x, y, hl, h => by simp at hl
  | c :: a, d :: b, x, y, hl, h => by
    rw [List.cons_lt_cons_iff] at h
    rw [List.cons_append, List.cons_append, List.cons_lt_cons_iff]
    rcases h with h | ⟨h1, h2⟩
    · exact .inl h
    · exact .inr ⟨h1, lt_app (by simpa using hl) h2⟩
theorem lt_snoc (p : List Nat) {a b : Nat} (h : a < b) : p ++ [a] < p ++ [b] := by
  induction p with
  | nil => rw [List.nil_append, List.nil_append, List.cons_lt_cons_iff]; exact .inl h
  | cons c p ih => rw [List.cons_append, List.cons_append, List.cons_lt_cons_iff]; exact .inr ⟨rfl, ih⟩
theorem lastM_snoc (q : List Nat) (c : Nat) : lastM (q ++ [c]) = c := by simp [lastM]
section
variable {row : List Nat} (hr : RowOk row)
include hr
theorem good_more {p : PcR} (h : GoodR row p) {x : PcR} (hx : x ∈ moreR p) : GoodR row x ∧ x.1.length = p.1.length + 1 := by
  obtain ⟨q, c, t, e, hP, hk⟩ := h
  obtain ⟨o, ho, rfl⟩ := List.mem_map.mp hx
  rw [e, lastM_snoc] at ho ⊢
  have hkr := hk.row hr
  have ha : ∀ z ∈ c :: t, z ∈ abcS := fun z hz => hkr.2.2 z (List.mem_append_right _ hz)
  have hl : (adjM (c :: t)).length ≤ 100 := by
    have := hkr.2.1
    rw [adj_len]; simp at this ⊢; omega
  obtain ⟨h1, t', h2⟩ := (next_mem hP hl (adj_ok ha) (.refl _)).mp ho
  have hin : pairM c o ∈ adjM (c :: t) := h2.mem_iff.mpr (by rw [adjM_cons]; exact List.mem_cons_self ..)
  refine ⟨⟨q ++ [c], o, t', rfl, (hP.less hin).perm ?_, ?_⟩, by simp⟩
  · have := h2.erase (pairM c o)
    rwa [adjM_cons c o t', List.erase_cons_head] at this
  · refine hk.trans ?_
    have h3 : KinM (c :: t) (c :: o :: t') := ⟨by have := h2.length_eq; rw [adj_len, adj_len] at this; simp at this ⊢; exact this, rfl, h2⟩
    have := kin_app (A := q) h3
    simpa using this
theorem go_good : ∀ n, ∀ p ∈ goR row n, GoodR row p ∧ p.1.length = n + 1
  | 0, p, hp => by
    obtain rfl : p = (row.take 1, pairsM row) := by simpa [goR] using hp
    cases row with
    | nil => have := hr.1; simp at this
    | cons c t => exact ⟨⟨[], c, t, rfl, pairs_pos _, .refl _⟩, rfl⟩
  | n + 1, p, hp => by
    obtain ⟨x, hx, hp⟩ := List.mem_flatMap.mp hp
    obtain ⟨g1, g2⟩ := go_good n x hx
    obtain ⟨k1, k2⟩ := good_more hr g1 hp
    exact ⟨k1, by rw [k2, g2]⟩
theorem go_all {u : List Nat} (hu : KinM row u) : ∀ n, n < row.length → ∃ p ∈ goR row n, p.1 = u.take (n + 1)
  | 0, _ => by
    refine ⟨_, List.mem_singleton.mpr rfl, ?_⟩
    cases row with
    | nil => have := hr.1; simp at this
    | cons c t =>
      cases u with
      | nil => have := hu.1; simp at this
      | cons x u =>
        have : c = x := by simpa using hu.2.1
        subst this; rfl
  | n + 1, hn => by
    obtain ⟨p, hp, e⟩ := go_all hu n (by omega)
    obtain ⟨⟨q, c, t, e1, hP, hk⟩, _⟩ := go_good hr n p hp
    have hul : u.length = row.length := hu.1.symm
    have hlq : q.length = n := by
      have := congrArg List.length (e1.symm.trans e)
      simp at this; omega
    have hget : u[n + 1]? = some (u[n + 1]'(by omega)) := List.getElem?_eq_getElem (by omega)
    generalize (u[n + 1]'(by omega)) = o at hget
    have eu : u = q ++ c :: o :: u.drop (n + 2) := by
      have h1 := (List.take_append_drop (n + 1) u).symm
      rw [← e, e1] at h1
      have h2 : u.drop (n + 1) = o :: u.drop (n + 2) := by
        obtain ⟨hlt, hv⟩ := List.getElem?_eq_some_iff.mp hget
        rw [← hv, List.getElem_cons_drop hlt]
      rw [h2] at h1
      simpa using h1
    have hkr := hk.row hr
    have ha : ∀ z ∈ c :: t, z ∈ abcS := fun z hz => hkr.2.2 z (List.mem_append_right _ hz)
    have hl : (adjM (c :: t)).length ≤ 100 := by
      have := hkr.2.1
      rw [adj_len]; simp at this ⊢; omega
    have hperm : (adjM (c :: t)).Perm (adjM (c :: o :: u.drop (n + 2))) := by
      have h3 := (hk.symm.trans hu).2.2
      rw [eu, adjM_app q c t, adjM_app q c (o :: u.drop (n + 2))] at h3
      exact (List.perm_append_left_iff _).mp h3
    have ho : o ∈ nextM p.2 c := (next_mem hP hl (adj_ok ha) (.refl _)).mpr ⟨(hu.row hr).2.2 o (List.mem_of_getElem? hget), _, hperm⟩
    refine ⟨(p.1 ++ [o], lessD p.2 (pairM (lastM p.1) o)), List.mem_flatMap.mpr ⟨p, hp, List.mem_map.mpr ⟨o, by rw [e1, lastM_snoc]; exact ho, rfl⟩⟩, ?_⟩
    show p.1 ++ [o] = _
    rw [e, List.take_add_one (i := n + 1), hget]; rfl
theorem go_rise : ∀ n, ((goR row n).map (·.1)).Pairwise (· < ·)
  | 0 => by simp [goR]
  | n + 1 => by
    have ih := go_rise n
    have hlen : ∀ p ∈ goR row n, p.1.length = n + 1 := fun p hp => (go_good hr n p hp).2
    show ((goR row n).flatMap moreR |>.map (·.1)).Pairwise (· < ·)
    generalize goR row n = f at ih hlen
    induction f with
    | nil => simp
    | cons p f ihf =>
      rw [List.flatMap_cons, List.map_append]
      rw [List.map_cons, List.pairwise_cons] at ih
      refine List.pairwise_append.mpr ⟨?_, ihf ih.2 fun x hx => hlen x (List.mem_cons_of_mem _ hx), ?_⟩
      · unfold moreR
        rw [List.map_map, List.pairwise_map]
        have hs : (nextM p.2 (lastM p.1)).Pairwise (· < ·) := List.Pairwise.sublist (nextM_sub _ _) (show abcS.Pairwise (· < ·) by decide)
        refine hs.imp fun {a b} hab => ?_
        show p.1 ++ [a] < p.1 ++ [b]
        exact lt_snoc _ hab
      · intro x hx y hy
        obtain ⟨x', hx', rfl⟩ := List.mem_map.mp hx
        obtain ⟨y', hy', rfl⟩ := List.mem_map.mp hy
        obtain ⟨o, _, rfl⟩ := List.mem_map.mp hx'
        obtain ⟨z, hz, hy2⟩ := List.mem_flatMap.mp hy'
        obtain ⟨o2, _, rfl⟩ := List.mem_map.mp hy2
        have h1 := ih.1 z.1 (List.mem_map.mpr ⟨z, hz, rfl⟩)
        have l1 := hlen p (List.mem_cons_self ..)
        have l2 := hlen z (List.mem_cons_of_mem _ hz)
        show p.1 ++ [o] < z.1 ++ [o2]
        exact lt_app (l1.trans l2.symm) h1
/-- behind the last step: all kin, rising -/
theorem go_end : let kin := (goR row (row.length - 1)).map (·.1)
    kin.Pairwise (fun a b => leT a b = true) ∧ kin.Nodup ∧ ∀ r, r ∈ kin ↔ KinM row r := by
  have h1 := go_rise hr (row.length - 1)
  have hl := hr.1
  refine ⟨h1.imp fun {a b} h => decide_eq_true (List.le_of_lt h), h1.imp (S := fun a b => a ≠ b) fun {a b} h e => List.lt_irrefl b (by rw [e] at h; exact h), fun r => ?_⟩
  constructor
  · intro h
    obtain ⟨p, hp, rfl⟩ := List.mem_map.mp h
    obtain ⟨⟨q, c, t, e, _, hk⟩, h2⟩ := go_good hr _ p hp
    have h3 := hk.1
    rw [e] at h2 ⊢
    simp at h2 h3
    obtain rfl : t = [] := List.eq_nil_of_length_eq_zero (by omega)
    exact hk
  · intro h
    obtain ⟨p, hp, e⟩ := go_all hr h (row.length - 1) (by omega)
    rw [List.take_of_length_le (by rw [← h.1]; omega)] at e
    exact List.mem_map.mpr ⟨p, hp, e⟩
end
end Lt
namespace Lt
open PySem PySem.Spec PyProof.Rows L2 Evl
open SX (S)
variable [ZI]
def inT (w u : List Nat) : Bool := !(PySem.Builtin.Str.occurrences (S u) (S w) 0 (S u).length 1).isEmpty
def zInT (x y : Dt) (R : DQ) : Prop := match x, y with
  | .str w, .str u => R false (.bl (inT w u))
  | _, _ => False
theorem zInT_s {w u : List Nat} {R : DQ} : zInT (.str w) (.str u) R = R false (.bl (inT w u)) := rfl
def zNotInT (x y : Dt) (R : DQ) : Prop := match x, y with
  | .str w, .str u => R false (.bl (!inT w u))
  | _, _ => False
theorem zNotInT_s {w u : List Nat} {R : DQ} : zNotInT (.str w) (.str u) R = R false (.bl (!inT w u)) := rfl
end Lt
namespace Lt
open PySem PySem.Spec PyProof.Rows L2 Evl
open SX (S)
variable [ZI]
structure KinL (row : List Nat) (kin : List (List Nat)) : Prop where
  ris : kin.Pairwise (fun a b => leT a b = true)
  nd : kin.Nodup
  mem : ∀ r, r ∈ kin ↔ KinM row r
section
variable {row : List Nat} {kin kin' : List (List Nat)}
theorem KinL.go (hr : RowOk row) : KinL row ((goR row (row.length - 1)).map (·.1)) := let ⟨a, b, c⟩ := go_end hr; ⟨a, b, c⟩
theorem KinL.self (h : KinL row kin) : row ∈ kin := (h.mem row).mpr (.refl _)
theorem KinL.ok (h : KinL row kin) (hr : RowOk row) {u : List Nat} (hu : u ∈ kin) : RowOk u ∧ u.length = row.length := ⟨((h.mem u).mp hu).row hr, ((h.mem u).mp hu).1.symm⟩
end
end Lt
namespace Lt
open PySem PySem.Spec PyProof.Rows L2 Evl
open SX (S)
variable [ZI]
inductive Shp : Nat → Dt → Prop
  | non {n} : Shp (n + 1) .non
  | bl {n b} : Shp (n + 1) (.bl b)
  | int {n i} : Shp (n + 1) (.int i)
  | str {n l} : okT l → Shp (n + 1) (.str l)
  | lst {n} {ds : List Dt} : ds.length ≤ 100000 → (∀ d ∈ ds, Shp n d) → Shp (n + 1) (.lst ds)
  | tup {n} {ds : List Dt} : ds.length ≤ 100000 → (∀ d ∈ ds, Shp n d) → Shp (n + 1) (.tup ds)
  | tpk {n} {ds : List Dt} : ds.length ≤ 100000 → (∀ d ∈ ds, Shp n d) → Shp (n + 1) (.tpk ds)
theorem toPs_mapS : ∀ ds : List Dt, toPs ds = ds.map toP
  | [] => rfl
  | d :: ds => by unfold toPs; rw [toPs_mapS ds]; rfl
theorem Shp.alk {n : Nat} {d : Dt} (h : Shp n d) : alk n (toP d) = true := by
  have key : ∀ (n : Nat) (ds : List Dt), ds.length ≤ 100000 → (∀ d ∈ ds, Lt.alk n (toP d) = true) → (decide ((toPs ds).length ≤ 100000) && (toPs ds).all (Lt.alk n)) = true := fun n ds hl ih => by
    rw [toPs_mapS, List.length_map, decide_eq_true hl, Bool.true_and, List.all_map, List.all_eq_true]
    exact fun d hd => ih d hd
  induction h with
  | non => rfl
  | bl => rfl
  | int => rfl
  | str _ => rfl
  | lst hl _ ih => unfold toP Lt.alk; exact key _ _ hl ih
  | tup hl _ ih => unfold toP Lt.alk; exact key _ _ hl ih
  | tpk hl _ ih => unfold toP Lt.alk; exact key _ _ hl ih
theorem Shp.cmp {n : Nat} {d : Dt} (h : Shp n d) : ∀ m, n ≤ m → cmpOk m d = true := by
  induction h with
  | non => intro m hm; cases m with
    | zero => omega
    | succ m => rfl
  | bl => intro m hm; cases m with
    | zero => omega
    | succ m => rfl
  | int => intro m hm; cases m with
    | zero => omega
    | succ m => rfl
  | str ho => intro m hm; cases m with
    | zero => omega
    | succ m => exact cmpOk_str ho
  | lst hl _ ih => intro m hm; cases m with
    | zero => omega
    | succ m => unfold cmpOk; exact cmpOks_of fun d hd => ih d hd m (by omega)
  | tup hl _ ih => intro m hm; cases m with
    | zero => omega
    | succ m => unfold cmpOk; exact cmpOks_of fun d hd => ih d hd m (by omega)
  | tpk hl _ ih => intro m hm; cases m with
    | zero => omega
    | succ m => unfold cmpOk; exact cmpOks_of fun d hd => ih d hd m (by omega)
/-- what the law's own comparison asks -/
theorem Shp.like {d : Dt} (h : Shp 12 d) : Lt.alk 12 (toP d) = true ∧ cmpOk 60 d = true := ⟨h.alk, h.cmp 60 (by omega)⟩
theorem shp_all {n : Nat} {d : Dt} {ds : List Dt} : (∀ x ∈ d :: ds, Shp n x) ↔ Shp n d ∧ ∀ x ∈ ds, Shp n x := by simp
theorem shp_nil {n : Nat} : ∀ x ∈ ([] : List Dt), Shp n x := fun _ h => nomatch h
theorem shp_cons {n : Nat} {d : Dt} {ds : List Dt} (h : Shp n d) (k : ∀ x ∈ ds, Shp n x) : ∀ x ∈ d :: ds, Shp n x := shp_all.mpr ⟨h, k⟩
end Lt
namespace Lt
open PySem PySem.Spec PyProof.Rows L2 Evl
open SX (S)
variable [ZI]
def rIdxS : V → List V → Hp → VK → Prop := fun x xs H Q => ∃ (l : List Nat) (c k : Nat), x = Tx l ∧ xs = [Tx [c]] ∧ l[k]? = some c ∧ (∀ m, m < k → l[m]? ≠ some c) ∧ Q (.int (k : Nat)) H
theorem mt_idxS {X : Cx} : MtR X "str.index" rIdxS := by
  intro pins s σ H x xs v us Q I rx rs h
  obtain ⟨l, c, k, rfl, rfl, h1, h2, hq⟩ := h
  obtain ⟨t, rfl⟩ := rx
  cases rs with
  | cons r1 rs =>
    cases rs
    obtain ⟨u, rfl⟩ := r1
    have one : ∀ i, PySem.StrLaws.At (S l) (S [c]) (S l).length i ↔ l[i]? = some c := fun i => by
      have := PySem.StrLaws.subAt_one (S l) c i
      rw [S_list] at this
      exact this
    rcases PySem.StrLaws.occ_head (S l) (S [c]) 1 (Nat.le_refl _) with ⟨_, hn⟩ | ⟨i, r, e, ha, hm⟩
    · exact absurd ((one k).mpr h1) (hn k)
    · have hi := (one i).mp ha
      have e2 : i = k := by
        rcases Nat.lt_trichotomy i k with q | q | q
        · exact absurd hi (h2 i q)
        · exact q
        · exact absurd ((one k).mpr h1) (hm k q)
      subst e2
      exact PySem.SC.index e ⟨.int (i : Nat), H, I.tok _, ⟨_, rfl⟩, hq⟩
def zIdxS (x y : Dt) (R : DQ) : Prop := match x, y with
  | .str l, .str [c] => ∃ k : Nat, l[k]? = some c ∧ (∀ m, m < k → l[m]? ≠ some c) ∧ R false (.int (k : Int))
  | _, _ => False
theorem z_idxS : OpZ (fun x y H Q => rIdxS x [y] H Q) zIdxS := by
  intro c L H x y dx dy Q R h wx wy hr k
  unfold zIdxS at hr
  split at hr
  · rename_i l c0
    obtain ⟨j, h1, h2, hr⟩ := hr
    obtain rfl := wx.scal_str h
    obtain rfl := wy.scal_str h
    exact ⟨l, c0, j, rfl, rfl, h1, h2, k _ _ _ _ hr (h.int _)⟩
  · exact hr.elim
def splitM (c : Nat) : List Nat → List (List Nat)
  | [] => [[]]
  | x :: l => if x = c then [] :: splitM c l else match splitM c l with
    | p :: ps => (x :: p) :: ps
    | [] => [[x]]
def zSplitS (x y : Dt) (R : DQ) : Prop := match x, y with
  | .str l, .str [c] => l.length ≤ 16000000 ∧ R true (.lst ((splitM c l).map .str))
  | _, _ => False
theorem zSplitS_s {l : List Nat} {c : Nat} {R : DQ} : zSplitS (.str l) (.str [c]) R = (l.length ≤ 16000000 ∧ R true (.lst ((splitM c l).map .str))) := rfl
theorem zIdxS_s {l : List Nat} {c : Nat} {R : DQ} : zIdxS (.str l) (.str [c]) R = ∃ k : Nat, l[k]? = some c ∧ (∀ m, m < k → l[m]? ≠ some c) ∧ R false (.int (k : Int)) := rfl
theorem zIx_k {ds : List Dt} {y : Dt} {R : DQ} : zIx (.tpk ds) y R = zIx (.tup ds) y R := rfl
end Lt
namespace Lt
open PySem PySem.Spec PyProof.Rows L2 Evl
open SX (S)
variable [ZI]
abbrev PTBo (α : Type) := α → PSt → (α → PSt → Prop) → Prop
def OwGoal {α : Type} (gp : PTG) (tt : PTT) (pb : PTBo α) (vs : List Nat) (items : List Dt) (acc0 : α) (s1 : PSt) (R : α → PSt → Prop) : Prop := ∃ G : Nat → α → Prop, G 0 acc0 ∧
  (∀ i d acc, items[i]? = some d → G i acc → gp d (wipeS s1 vs) fun s2 => tt s2 fun b s3 => if b = true then pb acc s3 fun acc' s4 => wipeS s4 vs = wipeS s1 vs ∧ G (i + 1) acc' else wipeS s3 vs = wipeS s1 vs ∧ G (i + 1) acc) ∧
  ∀ acc, G items.length acc → R acc (wipeS s1 vs)
def pLc2 (ks : List Nat) (ip : PTI) (gp : PTG) (tt : PTT) (pb : PTBo (List Dt)) (vs : List Nat) : PTE := fun s Q => ip (frzS s ks) fun items s1 => OwGoal gp tt pb vs items [] s1 fun acc s2 => Q true (.lst acc) s2
theorem pLc2_go {ks : List Nat} {ip : PTI} {gp : PTG} {tt : PTT} {pb : PTBo (List Dt)} {vs : List Nat} {s : PSt} {Q : PQ} (h : ip (frzS s ks) fun items s1 => OwGoal gp tt pb vs items [] s1 fun acc s2 => Q true (.lst acc) s2) : pLc2 ks ip gp tt pb vs s Q := h
def pDc (ks : List Nat) (ip : PTI) (gp : PTG) (tt : PTT) (pb : PTBo AL) (vs : List Nat) : PTE := fun s Q => ip (frzS s ks) fun items s1 => OwGoal gp tt pb vs items [] s1 fun acc s2 => Q true (dicD acc) s2
theorem pDc_go {ks : List Nat} {ip : PTI} {gp : PTG} {tt : PTT} {pb : PTBo AL} {vs : List Nat} {s : PSt} {Q : PQ} (h : ip (frzS s ks) fun items s1 => OwGoal gp tt pb vs items [] s1 fun acc s2 => Q true (dicD acc) s2) : pDc ks ip gp tt pb vs s Q := h
end Lt
namespace Lt
open PySem PySem.Spec PyProof.Rows L2 Evl
open SX (S)
theorem ps_parC {X : Cx} {pos : Pos} {i j : Nat} {x y : Str} {a b : Expr} {ta : TA} {px py pt : Pos} {kt k2 pt2} (hc : X.calm = true) (hN : X.N.Nodup) (hi : X.N[i]? = some x) (hj : X.N[j]? = some y)
    (hx : Loc X.env.scope x) (hy : Loc X.env.scope y) (ha : PA X [a, b] ta)
    (hw : swappedStores [.Tuple [.Name x px, .Name y py] kt pt] (.Tuple [a, b] k2 pt2) X.env = pure none)
    (hs : swapsWithSole [.Tuple [.Name x px, .Name y py] kt pt] (.Tuple [a, b] k2 pt2) pos.line X.env = pure false := by rfl)
    (fx : X.fn x = true ∨ X.env.scope.names.lookup x = some .local := by first | exact .inl rfl | exact .inr rfl | assumption) (fy : X.fn y = true ∨ X.env.scope.names.lookup y = some .local := by first | exact .inl rfl | exact .inr rfl | assumption) :
    PS X (.Assign [.Tuple [.Name x px, .Name y py] kt pt] (.Tuple [a, b] k2 pt2) pos) (tPar i j ta) := by
  refine ⟨fun pins s σ H D I h => ?_⟩
  refine wpAny_Assign_stores (Tuple_ (thn (ha.run _ pins s σ H _ I h) fun us s1 ⟨vs, H1, I1, r1, q1⟩ => ?_)) hs hw
  obtain ⟨v, w, e1, q1⟩ := q1
  subst e1
  obtain ⟨u1, u2, rfl, rv, rw'⟩ : ∃ u1 u2, us = [u1, u2] ∧ RelV v u1 ∧ RelV w u2 := by
    cases r1 with
    | cons p q =>
      cases q with
      | cons p' q' =>
        cases q'
        exact ⟨_, _, rfl, p, p'⟩
  refine wpAny_newObj_type ?_ (by show 2 ≤ sizeLine; decide)
  have I2 : Inv X pins σ H1 { s1 with heap := s1.heap.push { cls := .type "tuple", data := .seq [u1, u2].toArray } } := I1.kept (t' := s1.toks) fun b o e => Heap.get?_push_of_some _ e
  have P := pgs_cons (X := X) (pg_name (pos := px) hN hi hx fx) (pgs_cons (pg_name (pos := py) hN hj hy fy) pgs_nil)
  show wpAny _ _ (assign (.Tuple [.Name x px, .Name y py] kt pt) X.env (.ref s1.heap.objs.size)) _ _ _
  refine (assign_Tuple_tuple (items := #[u1, u2]) (I.ok.hd hc) (IsTup.new s1.heap _) rfl rfl fun h' hx' => ?_)
  have I3 := I2.kept (h' := h') (t' := s1.toks) fun b o e => hx' b o (Nat.ne_of_lt (Heap.lt_size e)) e
  exact thn (P.run pins _ σ H1 [v, w] [u1, u2] _ I3 (.cons rv (.cons rw' .nil)) ⟨v, [w], rfl, w, [], rfl, rfl, q1⟩) fun _ s2 q => q
end Lt
namespace Lt
open PySem PySem.Spec PyProof.Rows L2 Evl
open SX (S)
section
variable [ZI]
def zListD (x : Dt) (R : DQ) : Prop := ∃ al : AL, x = dicD al ∧ R true (.lst ((al.map (·.1)).map .str))
theorem zListD_d {al : AL} {R : DQ} : zListD (dicD al) R = R true (.lst ((al.map (·.1)).map .str)) := propext ⟨fun ⟨a2, e, h⟩ => by rw [dicD_inj e]; exact h, fun h => ⟨al, rfl, h⟩⟩
/-- a ring as a row that ends with its first sign -/
def clM (r : List Nat) : List Nat := r ++ [r.headD 0]
def RotE (a b : List Nat) : Prop := ∃ A B, a = A ++ B ∧ b = B ++ A
def RingE (a b : List Nat) : Prop := RotE a b ∨ RotE a.reverse b
theorem RotE.refl (a : List Nat) : RotE a a := ⟨[], a, rfl, by simp⟩
theorem RotE.symm {a b : List Nat} (h : RotE a b) : RotE b a := let ⟨A, B, e1, e2⟩ := h; ⟨B, A, e2, e1⟩
theorem RotE.trans {a b c : List Nat} (h : RotE a b) (k : RotE b c) : RotE a c := by
  obtain ⟨A, B, rfl, rfl⟩ := h
  obtain ⟨C, D, e, rfl⟩ := k
  rcases List.append_eq_append_iff.mp e with ⟨E, rfl, rfl⟩ | ⟨E, rfl, rfl⟩
  · exact ⟨E, D ++ B, by simp, by simp⟩
  · exact ⟨A ++ C, E, by simp, by simp⟩
theorem RotE.rev {a b : List Nat} (h : RotE a b) : RotE a.reverse b.reverse := by
  obtain ⟨A, B, rfl, rfl⟩ := h
  exact ⟨B.reverse, A.reverse, by simp, by simp⟩
theorem RingE.refl (a : List Nat) : RingE a a := .inl (.refl a)
theorem RingE.rev (a : List Nat) : RingE a a.reverse := .inr (.refl _)
theorem RingE.symm {a b : List Nat} (h : RingE a b) : RingE b a := by
  rcases h with h | h
  · exact .inl h.symm
  · have := h.symm.rev
    rw [List.reverse_reverse] at this
    exact .inr this
theorem RingE.trans {a b c : List Nat} (h : RingE a b) (k : RingE b c) : RingE a c := by
  rcases h with h | h
  · rcases k with k | k
    · exact .inl (h.trans k)
    · exact .inr (h.rev.trans k)
  · rcases k with k | k
    · exact .inr (h.trans k)
    · have := h.rev
      rw [List.reverse_reverse] at this
      exact .inl (this.trans k)
theorem RotE.len {a b : List Nat} (h : RotE a b) : b.length = a.length := by
  obtain ⟨A, B, rfl, rfl⟩ := h
  simp [Nat.add_comm]
theorem RingE.len {a b : List Nat} (h : RingE a b) : b.length = a.length := by
  rcases h with h | h
  · exact h.len
  · rw [h.len, List.length_reverse]
theorem RotE.mem {a b : List Nat} (h : RotE a b) {c : Nat} : c ∈ b ↔ c ∈ a := by
  obtain ⟨A, B, rfl, rfl⟩ := h
  simp [or_comm]
theorem RingE.mem {a b : List Nat} (h : RingE a b) {c : Nat} : c ∈ b ↔ c ∈ a := by
  rcases h with h | h
  · exact h.mem
  · rw [h.mem, List.mem_reverse]
theorem RingE.ne {a b : List Nat} (h : RingE a b) (ha : a ≠ []) : b ≠ [] := fun z => ha (by
  have := h.len
  rw [z] at this
  exact List.eq_nil_of_length_eq_zero this.symm)
theorem cl_len (r : List Nat) : (clM r).length = r.length + 1 := by simp [clM]
theorem cl_mem {r : List Nat} {c : Nat} (hr : r ≠ []) : c ∈ clM r ↔ c ∈ r := by
  cases r with
  | nil => exact absurd rfl hr
  | cons x t =>
    simp only [clM, List.headD_cons, List.cons_append, List.mem_cons, List.mem_append, List.not_mem_nil, or_false]
    exact ⟨fun h => h.elim .inl fun h => h.elim .inr .inl, fun h => h.elim .inl fun h => .inr (.inl h)⟩
theorem RotE.abc {a b : List Nat} (h : RotE a b) (k : ∀ c ∈ a, c ∈ abcS) : ∀ c ∈ b, c ∈ abcS := fun c hc => k c (h.mem.mp hc)
def RingOk (r : List Nat) : Prop := 1 ≤ r.length ∧ r.length ≤ 39 ∧ ∀ c ∈ r, c ∈ abcS
theorem RingOk.ne {r : List Nat} (h : RingOk r) : r ≠ [] := fun z => by rw [z] at h; exact absurd h.1 (by decide)
theorem RingOk.cl {r : List Nat} (h : RingOk r) : RowOk (clM r) := ⟨by rw [cl_len]; omega, by rw [cl_len]; have := h.2.1; omega, fun c hc => h.2.2 c ((cl_mem h.ne).mp hc)⟩
theorem RingOk.row {r : List Nat} (h : RingOk r) : RowOk r := ⟨h.1, by have := h.2.1; omega, h.2.2⟩
end
end Lt
namespace Lt
open PySem PySem.Spec PyProof.Rows L2 Evl
open SX (S)
section
variable [ZI]
inductive Reach (m0 : List Nat) (nx : List Nat → List (List Nat)) : List Nat → Prop
  | refl : Reach m0 nx m0
  | step {r o : List Nat} : Reach m0 nx r → o ∈ nx r → Reach m0 nx o
structure GInv (m0 : List Nat) (nx : List Nat → List (List Nat)) (U : List (List Nat)) (busy : List Nat → Prop) (fl : AL) (ws : List (List Nat)) : Prop where
  nd : (fl.map (·.1)).Nodup
  me : m0 ∈ fl.map (·.1)
  so : ∀ r ∈ fl.map (·.1), Reach m0 nx r
  wa : ∀ r ∈ ws, r ∈ fl.map (·.1)
  al : ∀ r ∈ fl.map (·.1), r ∉ ws → ¬ busy r → ∀ o ∈ nx r, o ∈ fl.map (·.1)
def msG (U : List (List Nat)) (fl : AL) (ws : List (List Nat)) : Nat := 2 * (U.length - fl.length) + ws.length
section
variable {m0 : List Nat} {nx : List Nat → List (List Nat)} {U : List (List Nat)} {fl : AL} {ws : List (List Nat)}
theorem GInv.start {d : Dt} : GInv m0 nx U (fun _ => False) [(m0, d)] [m0] where
  nd := by simp
  me := by simp
  so := fun r hr => by
    obtain rfl : r = m0 := by simpa using hr
    exact .refl
  wa := fun r hr => by simpa using hr
  al := fun r hr hn _ _ _ => absurd (by simpa using hr) hn
theorem GInv.len {b : List Nat → Prop} (hU : ∀ r, Reach m0 nx r → r ∈ U) (h : GInv m0 nx U b fl ws) : fl.length ≤ U.length := by
  have := len_leG h.nd fun r hr => hU r (h.so r hr)
  rw [List.length_map] at this
  exact this
theorem GInv.add {r o : List Nat} {d : Dt} (hU : ∀ r, Reach m0 nx r → r ∈ U) (h : GInv m0 nx U (· = r) fl ws) (hr : r ∈ fl.map (·.1)) (ho : o ∈ nx r) (hn : o ∉ fl.map (·.1)) : GInv m0 nx U (· = r) (putD fl o d) (ws ++ [o]) ∧ msG U (putD fl o d) (ws ++ [o]) < msG U fl ws := by
  have key : ∀ {x}, x ∈ (putD fl o d).map (·.1) ↔ x = o ∨ x ∈ fl.map (·.1) := putD_key
  have h2 : GInv m0 nx U (· = r) (putD fl o d) (ws ++ [o]) := by
    refine ⟨putD_keys h.nd, key.mpr (.inr h.me), fun x hx => ?_, fun x hx => ?_, fun x hx hw hb q2 hq2 => ?_⟩
    · rcases key.mp hx with rfl | hx
      · exact .step (h.so r hr) ho
      · exact h.so x hx
    · rcases List.mem_append.mp hx with hx | hx
      · exact key.mpr (.inr (h.wa x hx))
      · exact key.mpr (.inl (List.mem_singleton.mp hx))
    · rcases key.mp hx with rfl | hx
      · exact absurd (List.mem_append_right _ (List.mem_singleton.mpr rfl)) hw
      · exact key.mpr (.inr (h.al x hx (fun m => hw (List.mem_append_left _ m)) hb q2 hq2))
  refine ⟨h2, ?_⟩
  have l1 := h2.len hU
  rw [putD_fresh hn] at l1
  unfold msG
  rw [putD_fresh hn, List.length_append, List.length_append]
  rw [List.length_append] at l1
  simp at l1 ⊢
  omega
theorem GInv.done {r : List Nat} (h : GInv m0 nx U (· = r) fl ws) (hr : ∀ o ∈ nx r, o ∈ fl.map (·.1)) : GInv m0 nx U (fun _ => False) fl ws :=
  ⟨h.nd, h.me, h.so, h.wa, fun y hy hn _ q hq => by
    by_cases e : y = r
    · subst e; exact hr q hq
    · exact h.al y hy hn e q hq⟩
end
def TurnE (a b : List Nat) : Prop := ∃ (A M B : List Nat) (x : Nat), a = A ++ x :: (M ++ x :: B) ∧ b = A ++ x :: (M.reverse ++ x :: B)
theorem ring_flip (P Q : List Nat) (x : Nat) : RingE (x :: P ++ x :: Q.reverse) (x :: P.reverse ++ x :: Q) := by
  refine .inr ⟨Q, x :: P.reverse ++ [x], ?_, ?_⟩
  · simp
  · simp
theorem TurnE.rev {a b : List Nat} (h : TurnE a b) : TurnE a.reverse b.reverse := by
  obtain ⟨A, M, B, x, rfl, rfl⟩ := h
  exact ⟨B.reverse, M.reverse, A.reverse, x, by simp, by simp⟩
theorem TurnE.cl {w u : List Nat} (h : TurnE (clM w) u) (hw : w ≠ []) : ∃ w', u = clM w' ∧ w' ≠ [] ∧ (RingE w w' ∨ ∃ v, TurnE w v ∧ RingE v w') := by
  obtain ⟨A, M, B, x, e1, rfl⟩ := h
  obtain ⟨c, w1, rfl⟩ : ∃ c t, w = c :: t := by
    cases w with
    | nil => exact absurd rfl hw
    | cons c t => exact ⟨c, t, rfl⟩
  rcases List.eq_nil_or_concat B with rfl | ⟨B', y, rfl⟩
  · have e2 : (c :: w1) ++ [c] = (A ++ x :: M) ++ [x] := by
      rw [show (c :: w1) ++ [c] = clM (c :: w1) from rfl, e1]; simp
    obtain ⟨e3, e4⟩ := List.append_inj' e2 rfl
    have e4 : c = x := by simpa using e4
    subst e4
    cases A with
    | nil =>
      have e5 : w1 = M := by simpa using e3
      subst e5
      refine ⟨c :: w1.reverse, by simp [clM], by simp, .inl (.inr ⟨w1.reverse, [c], by simp, by simp⟩)⟩
    | cons a A =>
      rw [List.cons_append] at e3
      injection e3 with e5 e6
      subst e5 e6
      refine ⟨c :: A ++ c :: M.reverse, by simp [clM], by simp, .inr ⟨c :: A.reverse ++ c :: M, ⟨[], A, M, c, by simp, by simp⟩, (ring_flip A M c).symm⟩⟩
  · have e2 : (c :: w1) ++ [c] = (A ++ x :: (M ++ x :: B')) ++ [y] := by
      rw [show (c :: w1) ++ [c] = clM (c :: w1) from rfl, e1]; simp [List.concat_eq_append]
    obtain ⟨e3, e4⟩ := List.append_inj' e2 rfl
    have e4 : c = y := by simpa using e4
    subst e4
    refine ⟨A ++ x :: (M.reverse ++ x :: B'), ?_, by simp, .inr ⟨_, ⟨A, M, B', x, e3, rfl⟩, .refl _⟩⟩
    unfold clM
    have : (A ++ x :: (M.reverse ++ x :: B')).headD 0 = c := by
      cases A with
      | nil => rw [List.nil_append] at e3 ⊢; injection e3 with e5 _; rw [e5]; rfl
      | cons a A => rw [List.cons_append] at e3 ⊢; injection e3 with e5 _; rw [e5]; rfl
    rw [this]
    simp [List.concat_eq_append]
theorem TurnE.len {a b : List Nat} (h : TurnE a b) : b.length = a.length := by
  obtain ⟨A, M, B, x, rfl, rfl⟩ := h
  simp
theorem TurnE.mem {a b : List Nat} (h : TurnE a b) {c : Nat} : c ∈ b ↔ c ∈ a := by
  obtain ⟨A, M, B, x, rfl, rfl⟩ := h
  simp
theorem TurnE.ne {a b : List Nat} (h : TurnE a b) : b ≠ [] := by
  obtain ⟨A, M, B, x, rfl, rfl⟩ := h
  simp
end
end Lt
namespace Lt
open PySem PySem.Spec PyProof.Rows L2 Evl
open SX (S)
section
variable [ZI]
def digs (n : Nat) : List Nat := if n < 10 then [48 + n] else [48 + n / 10, 48 + n % 10]
theorem digs_str : ∀ n : Nat, n < 100 → (toString (n : Int) : Str) = S (digs n) := by decide +kernel
def rStrI : List V → Hp → VK → Prop := fun xs H Q => (∃ i, xs = [.int i] ∧ i.natAbs.log2 < 1920 ∧ Q (.str (toString i)) H) ∨ ∃ a, xs = [.str a] ∧ Q (.str a) H
def zStr (x : Dt) (R : DQ) : Prop := match x with
  | .int i => ∃ n : Nat, n < 100 ∧ i = (n : Int) ∧ R false (.str (digs n))
  | .str l => R false (.str l)
  | _ => False
theorem z_str : UnZ (fun x H Q => rStrI [x] H Q) zStr := by
  intro c L H x dx Q R h wx hr k
  unfold zStr at hr
  split at hr
  · obtain ⟨n, hn, rfl, hr⟩ := hr
    rw [wx.scal_int h]
    refine .inl ⟨_, rfl, ?_, ?_⟩
    · have : n.log2 ≤ n := Nat.log2_le_self n
      show (n : Int).natAbs.log2 < 1920
      rw [Int.natAbs_natCast]
      omega
    · rw [digs_str n hn]
      exact k _ _ _ _ hr (h.str _)
  · rw [wx.scal_str h]
    exact .inr ⟨_, rfl, k _ _ _ _ hr (h.str _)⟩
  · exact hr.elim
theorem zStr_s {l : List Nat} {R : DQ} : zStr (.str l) R = R false (.str l) := rfl
/-- tuple(list), told as a tuple that nobody asks for its methods -/
def zTupW (x : Dt) (R : DQ) : Prop := match x with
  | .lst ds => R false (.tup ds)
  | _ => False
theorem zTupW_l {ds : List Dt} {R : DQ} : zTupW (.lst ds) R = R false (.tup ds) := rfl
end
end Lt
namespace Lt
open PySem PySem.Spec PyProof.Rows L2 Evl
open SX (S)
variable [ZI]
/-- parts of a cluster: frozen data, or lists of one's own -/
def ChS (A : Addr → Prop) (H : Hp) : List (Bool × Dt) → List V → List Addr → Prop
  | [], xs, qs => xs = [] ∧ qs = []
  | (b, d) :: ts, xs, qs => ∃ x xs', xs = x :: xs' ∧ ((b = false ∧ FrS A H d x ∧ ChS A H ts xs' qs) ∨ (b = true ∧ ∃ q qs', x = .ref q ∧ qs = q :: qs' ∧ AtS A H d q ∧ ChS A H ts xs' qs'))
theorem ChS.mono {A A' : Addr → Prop} {H H' : Hp} (k : ∀ a o, A a → H a = some o → stayO o = true → A' a ∧ H' a = some o) : ∀ {ts : List (Bool × Dt)} {xs : List V} {qs : List Addr}, (∀ q ∈ qs, ∀ o, H q = some o → H' q = some o) → ChS A H ts xs qs → ChS A' H' ts xs qs
  | [], _, _, _, h => h
  | (b, d) :: ts, _, qs, kq, ⟨x, xs', e, h⟩ => ⟨x, xs', e, h.imp (fun ⟨e1, h1, h2⟩ => ⟨e1, h1.mono k, ChS.mono k kq h2⟩) fun ⟨e1, q, qs', e2, e3, h1, h2⟩ => ⟨e1, q, qs', e2, e3, h1.mono k (kq q (by rw [e3]; exact List.mem_cons_self ..)), ChS.mono k (fun r hr => kq r (by rw [e3]; exact List.mem_cons_of_mem _ hr)) h2⟩⟩
theorem ChS.own {A : Addr → Prop} {H : Hp} : ∀ {ts : List (Bool × Dt)} {xs : List V} {qs : List Addr}, ChS A H ts xs qs → ∀ q ∈ qs, ∃ o, H q = some o ∧ ownO o = true
  | [], _, _, ⟨_, e⟩, q, hq => by rw [e] at hq; cases hq
  | (b, d) :: ts, _, _, ⟨x, xs', e, .inl ⟨_, _, h⟩⟩, q, hq => ChS.own h q hq
  | (b, d) :: ts, _, _, ⟨x, xs', e, .inr ⟨_, r, qs', _, e3, h1, h2⟩⟩, q, hq => by
    rw [e3] at hq
    rcases List.mem_cons.mp hq with rfl | hq
    · cases d <;> try exact h1.elim
      · obtain ⟨ys, h3, _⟩ := h1
        exact ⟨_, h3, rfl⟩
      · obtain ⟨ys, h3, _⟩ := h1
        exact ⟨_, h3, rfl⟩
    · exact ChS.own h2 q hq
theorem ChS.length {A : Addr → Prop} {H : Hp} : ∀ {ts : List (Bool × Dt)} {xs : List V} {qs : List Addr}, ChS A H ts xs qs → xs.length = ts.length
  | [], _, _, ⟨e, _⟩ => by rw [e]; rfl
  | (b, d) :: ts, _, _, ⟨x, xs', e, .inl ⟨_, _, h⟩⟩ => by rw [e, List.length_cons, List.length_cons, ChS.length h]
  | (b, d) :: ts, _, _, ⟨x, xs', e, .inr ⟨_, r, qs', _, e3, h1, h2⟩⟩ => by rw [e, List.length_cons, List.length_cons, ChS.length h2]
/-- .. looked at as a whole; dicts are not -/
def okCh : Bool × Dt → Bool
  | (_, .dic _ _) => false
  | _ => true
theorem AtS.frs {A B : Addr → Prop} {H : Hp} {d : Dt} {q : Addr} (h : AtS A H d q) (hd : okCh (true, d) = true) (k : ∀ a, A a → B a) (hq : B q) : FrS B H d (.ref q) := by
  cases d <;> try exact h.elim
  · obtain ⟨xs, h1, h2⟩ := h
    exact ⟨q, xs, rfl, hq, h1, h2.mono fun a o ha ho _ => ⟨k a ha, ho⟩⟩
  · cases hd
theorem ChS.data {A B : Addr → Prop} {H : Hp} (k : ∀ a, A a → B a) : ∀ {ts : List (Bool × Dt)} {xs : List V} {qs : List Addr}, ts.all okCh = true → (∀ q ∈ qs, B q) → ChS A H ts xs qs → FrSs B H (ts.map (·.2)) xs
  | [], _, _, _, _, ⟨e, _⟩ => e
  | (b, d) :: ts, _, _, ho, hq, ⟨x, xs', e, .inl ⟨_, h1, h⟩⟩ => by
    rw [List.all_cons, Bool.and_eq_true] at ho
    exact ⟨x, xs', e, h1.mono (fun a o ha ho _ => ⟨k a ha, ho⟩), ChS.data k ho.2 hq h⟩
  | (b, d) :: ts, _, _, ho, hq, ⟨x, xs', e, .inr ⟨eb, r, qs', e2, e3, h1, h2⟩⟩ => by
    rw [List.all_cons, Bool.and_eq_true] at ho
    subst e2 eb
    exact ⟨_, xs', e, h1.frs ho.1 k (hq r (by rw [e3]; exact List.mem_cons_self ..)), ChS.data k ho.2 (fun q hm => hq q (by rw [e3]; exact List.mem_cons_of_mem _ hm)) h2⟩
abbrev PTD := PSt → (List (Bool × Dt) → PSt → Prop) → Prop
section
variable {c : Ctx} {t ta : TE} {tr : TA} {pa : PTE} {pr : PTD} {K : PySem.W.Frag}
/-- a slot's own piece taken out -/
theorem Rel.take {s : PSt} {σ : L2.St} {F : List Pc} {H : Hp} {k : Nat} {a : Sl} {v : V} (h : Rel c s σ F H) (hs : s[k]? = some a) (hσ : σ[k]? = some (some v)) : Rel c (s.set k .un) σ ((a, some v) :: F) H := by
  obtain ⟨b, hb, hz⟩ := zip_get h.1 hs
  rw [hσ] at hb
  cases hb
  have ho := h.out hz
  have h2 : RelL c ((.un, some v) :: ((s.zip σ).take k ++ (s.zip σ).drop (k + 1) ++ ((a, some v) :: F))) H := by
    have h3 : RelL c ((s.zip σ).take k ++ (s.zip σ).drop (k + 1) ++ ((a, some v) :: F)) H := ho.perm List.perm_middle.symm
    exact ⟨h3.nd, fun x hx => by
      rcases List.mem_cons.mp hx with rfl | hx
      · trivial
      · exact h3.ok x hx, h3.old, h3.iv⟩
  exact .back h.1 hσ h2
/-- how many parts of one's own stand ahead -/
def rkB (ts : List (Bool × Dt)) (j : Nat) : Nat := (ts.take j).countP (·.1)
theorem ChS.get {A : Addr → Prop} {H : Hp} {d : Dt} : ∀ {ts : List (Bool × Dt)} {xs : List V} {qs : List Addr} {j : Nat}, ChS A H ts xs qs → ts[j]? = some (true, d) → ∃ q, xs[j]? = some (.ref q) ∧ qs[rkB ts j]? = some q ∧ AtS A H d q
  | [], _, _, j, _, e => by simp at e
  | (b, d0) :: ts, _, _, 0, ⟨x, xs', ex, h⟩, e => by
    simp at e
    obtain ⟨rfl, rfl⟩ := e
    rcases h with ⟨z, _⟩ | ⟨_, q, qs', e2, e3, h1, h2⟩
    · cases z
    · subst ex e2 e3
      exact ⟨q, rfl, rfl, h1⟩
  | (b, d0) :: ts, _, _, j + 1, ⟨x, xs', ex, h⟩, e => by
    have e : ts[j]? = some (true, d) := by simpa using e
    rcases h with ⟨rfl, _, h2⟩ | ⟨rfl, q, qs', e2, e3, h1, h2⟩
    · obtain ⟨r, g1, g2, g3⟩ := ChS.get h2 e
      subst ex
      exact ⟨r, by simpa using g1, by unfold rkB at g2 ⊢; simpa using g2, g3⟩
    · obtain ⟨r, g1, g2, g3⟩ := ChS.get h2 e
      subst ex e3
      refine ⟨r, by simpa using g1, ?_, g3⟩
      have : rkB ((true, d0) :: ts) (j + 1) = rkB ts j + 1 := by unfold rkB; rw [List.take_succ_cons, List.countP_cons]; simp
      rw [this]
      simpa using g2
theorem FrSs.append {A : Addr → Prop} {H : Hp} : ∀ {ds es : List Dt} {vs ws : List V}, FrSs A H ds vs → FrSs A H es ws → FrSs A H (ds ++ es) (vs ++ ws)
  | [], _, _, _, r, k => by cases r; exact k
  | d :: ds, _, _, _, ⟨v, us, e, h1, h2⟩, k => by subst e; exact ⟨v, _, rfl, h1, h2.append k⟩
theorem ChS.set {A A' : Addr → Prop} {H H' : Hp} {d d' : Dt} {q : Addr} (k : ∀ a o, A a → H a = some o → stayO o = true → A' a ∧ H' a = some o) : ∀ {ts : List (Bool × Dt)} {xs : List V} {qs : List Addr} {j : Nat}, ChS A H ts xs qs → ts[j]? = some (true, d) → qs.Nodup → qs[rkB ts j]? = some q → (∀ r ∈ qs, r ≠ q → ∀ o, H r = some o → H' r = some o) → AtS A' H' d' q → ChS A' H' (ts.set j (true, d')) xs qs
  | [], _, _, j, _, e, _, _, _, _ => by simp at e
  | (b, d0) :: ts, _, _, 0, ⟨x, xs', ex, h⟩, e, nd, hq, kq, ha => by
    simp at e
    obtain ⟨rfl, rfl⟩ := e
    rcases h with ⟨z, _⟩ | ⟨_, r, qs', e2, e3, h1, h2⟩
    · cases z
    · subst ex e2 e3
      have : r = q := by simpa [rkB] using hq
      subst this
      refine ⟨_, _, rfl, .inr ⟨rfl, r, qs', rfl, rfl, ha, h2.mono k fun s hs => kq s (List.mem_cons_of_mem _ hs) fun z => ?_⟩⟩
      subst z
      exact (List.nodup_cons.mp nd).1 hs
  | (b, d0) :: ts, _, _, j + 1, ⟨x, xs', ex, h⟩, e, nd, hq, kq, ha => by
    have e : ts[j]? = some (true, d) := by simpa using e
    rcases h with ⟨rfl, h1, h2⟩ | ⟨rfl, r, qs', e2, e3, h1, h2⟩
    · subst ex
      exact ⟨_, _, rfl, .inl ⟨rfl, h1.mono k, ChS.set k h2 e nd (by unfold rkB at hq ⊢; simpa using hq) kq ha⟩⟩
    · subst ex e2 e3
      have er : rkB ((true, d0) :: ts) (j + 1) = rkB ts j + 1 := by unfold rkB; rw [List.take_succ_cons, List.countP_cons]; simp
      rw [er] at hq
      have hq : qs'[rkB ts j]? = some q := by simpa using hq
      have ne : r ≠ q := fun z => (List.nodup_cons.mp nd).1 (z ▸ List.mem_of_getElem? hq)
      exact ⟨_, _, rfl, .inr ⟨rfl, r, qs', rfl, rfl, h1.mono k (kq r (List.mem_cons_self ..) ne), ChS.set k h2 e (List.nodup_cons.mp nd).2 hq (fun s hs => kq s (List.mem_cons_of_mem _ hs)) ha⟩⟩
end
end Lt
namespace Lt
open PySem PySem.Spec PyProof.Rows L2 Evl
open SX (S)
def rCntV (K : PySem.W.Frag) : V → List V → Hp → VK → Prop := fun x xs H Q => ∃ (p : Addr) (ys : List V) (z : V), x = .ref p ∧ xs = [z] ∧ SqL K H p ys ∧ flatV z = true ∧ ys.all flatV = true ∧ Q (.int (ys.countP (fun y => eqV y z) : Nat)) H
theorem mt_cntV {X : Cx} : MtR X "list.count" (rCntV X.K) := by
  intro pins s σ H x xs v us Q I rx rxs h
  obtain ⟨p, ys, z, rfl, rfl, hs, fz, fl, q⟩ := h
  cases rx
  obtain ⟨u, rfl, ru⟩ := rxs.one
  obtain ⟨its, rv, ⟨⟨cls, dd, dt, sl⟩, n, ho, hc, hdn, hd⟩, hlen⟩ := I.list hs
  simp only at hc hd
  subst hc hd
  have ec : ∀ {ys : List V} {us : List Value}, Vals ys us → ys.all flatV = true → us.countP (eqU z) = ys.countP fun y => eqV y z := by
    intro ys
    induction ys with
    | nil => intro us r _; cases r; rfl
    | cons y ys ih =>
      intro us r hf
      rw [List.all_cons, Bool.and_eq_true] at hf
      cases r with
      | cons h1 h2 => rw [List.countP_cons, List.countP_cons, ih h2 hf.2, eqU_of h1 hf.1]
  refine call_meets PySem.F.slot_list_count ⟨_, ho, rfl⟩ PySem.F.entry_list_count (PySem.F.args_list_count_2 _ _)
    (SeqAt.list_countAt p its.toArray n dd sl u (eqU z)) ⟨ho, fun w hw => mem_eqAt ru fz rv fl w (by simpa using hw), ?_⟩
  refine ⟨.int (ys.countP (fun y => eqV y z) : Nat), H, I.tok _, ⟨s.toks, ?_⟩, q⟩
  show Value.int ((its.toArray.toList.countP (eqU z) : Nat) : Int) s.toks = _
  exact congrArg (fun z : Nat => Value.int (z : Int) s.toks) (ec rv fl)
theorem mt_cntVK {X : Cx} {K : PySem.W.Frag} (hK : X.K = K) : MtR X "list.count" (rCntV K) := hK ▸ mt_cntV
def rRemV : V → List V → Hp → VK → Prop := fun x xs H Q => ∃ (l : Addr) (ys : List V) (z : V) (j : Nat) (w : V), x = .ref l ∧ xs = [z] ∧ H l = some (.lst ys) ∧ flatV z = true ∧ ys.all flatV = true ∧ ys[j]? = some w ∧ eqV w z = true ∧ (∀ (m : Nat) (w' : V), m < j → ys[m]? = some w' → eqV w' z = false) ∧ Q .non (upd H l (.lst (ys.eraseIdx j)))
theorem mt_remV {X : Cx} : MtR X "list.remove" rRemV := by
  intro pins s σ H x xs v us Q I rx rxs h
  obtain ⟨l, ys, z, j, w, rfl, rfl, hH, fz, fl, hj, hw, hno, q⟩ := h
  cases rx
  obtain ⟨u, rfl, ru⟩ := rxs.one
  obtain ⟨zz, its, n, r, hl, e⟩ := I.lstM hH
  have hvl := r.length
  have hjn : j < ys.length := (List.getElem?_eq_some_iff.mp hj).1
  have hjl : j < its.toArray.size := by rw [List.size_toArray]; omega
  have at_ : ∀ (m : Nat) (hm : m < its.toArray.size) (y : V), ys[m]? = some y → eqU z its.toArray[m] = eqV y z := fun m hm y hy => by
    obtain ⟨u2, hu2, ru2⟩ := r.get hy
    obtain ⟨_, hme⟩ := List.getElem?_eq_some_iff.mp hu2
    have e1 : its.toArray[m] = u2 := by simpa using hme
    rw [e1, eqU_of ru2 (flat_at fl hy)]
  refine call_meets PySem.F.slot_list_remove ⟨_, e, rfl⟩ PySem.F.entry_list_remove (PySem.F.args_list_remove_2 _ _)
    (SeqAt.list_removeAt l its.toArray n none _ u (eqU z) j hjl ?_ ?_ (by rw [List.size_toArray]; omega)) ⟨e, fun y hy => mem_eqAt ru fz r fl y (by simpa using hy), ?_⟩
  · rw [at_ j hjl w hj]
    exact hw
  · intro m hm hmj
    have hmn : m < ys.length := by omega
    rw [at_ m hm _ (List.getElem?_eq_getElem hmn)]
    exact hno m _ hmj (List.getElem?_eq_getElem hmn)
  · refine ⟨.non, _, I.lset (its' := its.eraseIdx j) (t' := s.toks) hH e ?_ (r.eraseIdx j) ?_, rfl, q⟩
    · show its.toArray.eraseIdxIfInBounds j = (its.eraseIdx j).toArray
      rw [List.eraseIdxIfInBounds_toArray]
    · have z2 := len_erase ys j
      omega
section
variable {α : Type} [BEq α] [LawfulBEq α]
def remM (A G : List α) : List α := G.foldl List.erase A
theorem remM_perm {A B : List α} (h : A.Perm B) : ∀ {G : List α}, (remM A G).Perm (remM B G)
  | [] => h
  | g :: G => remM_perm (h.erase g) (G := G)
def dM (A G : List α) : Nat := (remM A G).length
theorem dM_perm {A B G : List α} (h : A.Perm B) : dM A G = dM B G := (remM_perm h).length_eq
theorem dM_cons (x : α) : ∀ (G A : List α), dM (x :: A) G ≤ dM A G + 1 ∧ dM A G ≤ dM (x :: A) G
  | [], A => by
    show (x :: A).length ≤ A.length + 1 ∧ A.length ≤ (x :: A).length
    rw [List.length_cons]; omega
  | g :: G, A => by
    show dM ((x :: A).erase g) G ≤ dM (A.erase g) G + 1 ∧ dM (A.erase g) G ≤ dM ((x :: A).erase g) G
    by_cases e : x = g
    · subst e
      rw [List.erase_cons_head]
      by_cases hm : x ∈ A
      · have hp : dM A G = dM (x :: A.erase x) G := dM_perm (List.perm_cons_erase hm)
        rw [hp]
        exact dM_cons x G (A.erase x)
      · rw [List.erase_of_not_mem hm]
        omega
    · rw [List.erase_cons_tail (by simpa using e)]
      exact dM_cons x G (A.erase g)
theorem dM_app : ∀ (X A G : List α), dM (X ++ A) G ≤ dM A G + X.length ∧ dM A G ≤ dM (X ++ A) G
  | [], A, G => by simp
  | x :: X, A, G => by
    have h1 := dM_app X A G
    have h2 := dM_cons x G (X ++ A)
    rw [List.cons_append, List.length_cons]
    omega
theorem remM_self : ∀ (A : List α), remM A A = []
  | [] => rfl
  | a :: A => by
    show remM ((a :: A).erase a) A = []
    rw [List.erase_cons_head]
    exact remM_self A
theorem sum_map_le {S : List α} {f g : α → Nat} (h : ∀ x ∈ S, f x = g x) : (S.map f).sum = (S.map g).sum := by
  congr 1
  exact List.map_congr_left h
theorem sum_one {S : List α} {f g : α → Nat} {a : α} (hn : S.Nodup) (ha : a ∈ S) (h : ∀ x ∈ S, x ≠ a → f x = g x) (h1 : f a = g a + 1) : (S.map f).sum = (S.map g).sum + 1 := by
  induction S with
  | nil => cases ha
  | cons x S ih =>
    obtain ⟨n1, n2⟩ := List.nodup_cons.mp hn
    rw [List.map_cons, List.map_cons, List.sum_cons, List.sum_cons]
    by_cases e : x = a
    · subst e
      rw [h1, sum_map_le (S := S) (f := f) (g := g) fun y hy => h y (List.mem_cons_of_mem _ hy) fun z => n1 (z ▸ hy)]
      omega
    · have hm : a ∈ S := (List.mem_cons.mp ha).resolve_left fun z => e z.symm
      rw [ih n2 hm fun y hy => h y (List.mem_cons_of_mem _ hy), h x (List.mem_cons_self ..) e]
      omega
/-- .. as counted value by value -/
theorem dM_count {S : List α} (hn : S.Nodup) : ∀ (G A : List α), (∀ x ∈ A, x ∈ S) → dM A G + (S.map fun p => min (A.count p) (G.count p)).sum = A.length
  | [], A, _ => by
    have : (S.map fun p => min (A.count p) (([] : List α).count p)).sum = 0 := by
      have key : ∀ S : List α, (S.map fun p => min (A.count p) (([] : List α).count p)).sum = 0 := by
        intro S
        induction S with
        | nil => rfl
        | cons x S ih => rw [List.map_cons, List.sum_cons, ih, List.count_nil, Nat.min_zero]
      exact key S
    rw [this]; rfl
  | g :: G, A, h => by
    show dM (A.erase g) G + _ = _
    have ih := dM_count hn G (A.erase g) fun x hx => h x (List.mem_of_mem_erase hx)
    by_cases hm : g ∈ A
    · have hc : 0 < A.count g := List.count_pos_iff.mpr hm
      rw [sum_one (f := fun p => min (A.count p) ((g :: G).count p)) (g := fun p => min ((A.erase g).count p) (G.count p)) hn (h g hm)]
      · rw [List.length_erase_of_mem hm] at ih
        have := List.length_pos_of_mem hm
        omega
      · intro x _ ne
        rw [List.count_erase, if_neg (by simpa using Ne.symm ne), List.count_cons, if_neg (by simpa using Ne.symm ne)]
        rfl
      · rw [List.count_erase, if_pos (by simp), List.count_cons, if_pos (by simp)]
        omega
    · rw [List.erase_of_not_mem hm] at ih ⊢
      rw [← ih]
      congr 1
      refine sum_map_le fun x _ => ?_
      rw [List.count_cons]
      split
      · rename_i e
        have e : g = x := by simpa using e
        subst e
        rw [List.count_eq_zero_of_not_mem hm, Nat.zero_min, Nat.zero_min]
      · rfl
end
def passW (row : List Nat) (i : Nat) : Nat × List Nat := (row.getD i 0, pairM (row.getD (i - 1) 0) (row.getD (i + 1) 0))
def inM (row : List Nat) : List Nat := List.range' 1 (row.length - 2)
def passM (row : List Nat) (c : Nat) : List (List Nat) := (((inM row).map (passW row)).filter fun q => decide (q.1 = c)).map (·.2)
theorem inM_mem {row : List Nat} {i : Nat} : i ∈ inM row ↔ 1 ≤ i ∧ i + 1 < row.length := by
  unfold inM
  rw [List.mem_range'_1]
  omega
theorem inM_nodup (row : List Nat) : (inM row).Nodup := List.nodup_range' 1
theorem pair_comm (a b : Nat) : pairM a b = pairM b a := by
  unfold pairM
  by_cases h : a ≤ b
  · by_cases k : b ≤ a
    · have : a = b := by omega
      subst this; rfl
    · rw [if_pos h, if_neg k]
  · rw [if_neg h, if_pos (by omega)]
theorem map_nodup {α β : Type} {f : α → β} {l : List α} (h : l.Nodup) (hf : ∀ x ∈ l, ∀ y ∈ l, f x = f y → x = y) : (l.map f).Nodup := by
  rw [List.nodup_iff_pairwise_ne] at h ⊢
  rw [List.pairwise_map]
  refine h.imp_of_mem fun ha hb ne e => ne (hf _ ha _ hb e)
theorem filt_two {h t : Nat} : ∀ {l : List Nat}, l.Nodup → (l.filter fun i => decide (i = h ∨ i = t)).length ≤ 2 := fun {l} hn => by
  have h1 : (l.filter fun i => decide (i = h ∨ i = t)).length ≤ l.count h + l.count t := by
    clear hn
    induction l with
    | nil => simp
    | cons x l ih =>
      rw [List.filter_cons, List.count_cons, List.count_cons]
      by_cases e1 : x = h
      · subst e1
        simp only [true_or, decide_true, if_true, List.length_cons, beq_self_eq_true]
        omega
      · by_cases e2 : x = t
        · subst e2
          simp only [or_true, decide_true, if_true, List.length_cons, beq_self_eq_true]
          omega
        · rw [decide_eq_false (fun z => z.elim e1 e2)]
          simp only [Bool.false_eq_true, if_false]
          omega
  have h2 := List.nodup_iff_count.mp hn h
  have h3 := List.nodup_iff_count.mp hn t
  omega
theorem turn_pass {row : List Nat} {h t : Nat} (h1 : h < t) (h2 : t < row.length) (he : row.getD t 0 = row.getD h 0) :
    ∃ X Y M : List (Nat × List Nat), ((inM row).map (passW row)).Perm (X ++ M) ∧ ((inM (turnM row h t)).map (passW (turnM row h t))).Perm (Y ++ M) ∧ X.length ≤ 2 ∧ (∀ q ∈ X, q.1 = row.getD h 0) ∧ ∀ q ∈ Y, q.1 = row.getD h 0 := by
  have hl : (turnM row h t).length = row.length := turnM_len (by omega) h2
  have hin : inM (turnM row h t) = inM row := by unfold inM; rw [hl]
  rw [hin]
  let p : Nat → Bool := fun i => decide (i = h ∨ i = t)
  let σ : Nat → Nat := fun i => if h ≤ i ∧ i ≤ t then h + t - i else i
  have hσ : ∀ i, (turnM row h t).getD i 0 = row.getD (σ i) 0 := fun i => by
    rw [turnM_getD (by omega) h2]
    show _ = row.getD (if h ≤ i ∧ i ≤ t then h + t - i else i) 0
    split <;> rfl
  have lab : ∀ i, i = h ∨ i = t → row.getD (σ i) 0 = row.getD h 0 ∧ row.getD i 0 = row.getD h 0 := fun i hi => by
    show row.getD (if h ≤ i ∧ i ≤ t then h + t - i else i) 0 = _ ∧ _
    rcases hi with rfl | rfl
    · rw [if_pos ⟨Nat.le_refl _, by omega⟩, show i + t - i = t by omega]
      exact ⟨he, rfl⟩
    · rw [if_pos ⟨by omega, Nat.le_refl _⟩, show h + i - i = h by omega]
      exact ⟨rfl, he⟩
  have key : ∀ i ∈ (inM row).filter (fun i => !p i), passW (turnM row h t) i = passW row (σ i) := fun i hi => by
    obtain ⟨hm, hp⟩ := List.mem_filter.mp hi
    obtain ⟨i1, i2⟩ := inM_mem.mp hm
    have hp : ¬ (i = h ∨ i = t) := by
      have : (!decide (i = h ∨ i = t)) = true := hp
      simpa using this
    have n1 : i ≠ h := fun z => hp (.inl z)
    have n2 : i ≠ t := fun z => hp (.inr z)
    unfold passW
    rw [hσ, hσ, hσ]
    by_cases c : h ≤ i ∧ i ≤ t
    · have e0 : σ i = h + t - i := if_pos c
      have e1 : σ (i - 1) = h + t - i + 1 := by
        show (if h ≤ i - 1 ∧ i - 1 ≤ t then h + t - (i - 1) else i - 1) = _
        rw [if_pos (by omega)]; omega
      have e2 : σ (i + 1) = h + t - i - 1 := by
        show (if h ≤ i + 1 ∧ i + 1 ≤ t then h + t - (i + 1) else i + 1) = _
        rw [if_pos (by omega)]; omega
      rw [e0, e1, e2, pair_comm]
    · have e0 : σ i = i := if_neg c
      have e1 : σ (i - 1) = i - 1 ∨ (σ (i - 1) = h ∧ i - 1 = t) := by
        by_cases c1 : h ≤ i - 1 ∧ i - 1 ≤ t
        · right
          have e : i - 1 = t := by omega
          refine ⟨?_, e⟩
          show (if h ≤ i - 1 ∧ i - 1 ≤ t then h + t - (i - 1) else i - 1) = _
          rw [if_pos c1]; omega
        · exact .inl (if_neg c1)
      have e2 : σ (i + 1) = i + 1 ∨ (σ (i + 1) = t ∧ i + 1 = h) := by
        by_cases c1 : h ≤ i + 1 ∧ i + 1 ≤ t
        · right
          have e : i + 1 = h := by omega
          refine ⟨?_, e⟩
          show (if h ≤ i + 1 ∧ i + 1 ≤ t then h + t - (i + 1) else i + 1) = _
          rw [if_pos c1]; omega
        · exact .inl (if_neg c1)
      have g1 : row.getD (σ (i - 1)) 0 = row.getD (i - 1) 0 := by
        rcases e1 with e | ⟨e, e'⟩
        · rw [e]
        · rw [e, e', he]
      have g2 : row.getD (σ (i + 1)) 0 = row.getD (i + 1) 0 := by
        rcases e2 with e | ⟨e, e'⟩
        · rw [e]
        · rw [e, e', he]
      rw [e0, g1, g2]
  have sig : (((inM row).filter fun i => !p i).map σ).Perm ((inM row).filter fun i => !p i) := by
    have hn : ((inM row).filter fun i => !p i).Nodup := List.filter_sublist.nodup (inM_nodup row)
    have hmem : ∀ i, i ∈ (inM row).filter (fun i => !p i) ↔ (1 ≤ i ∧ i + 1 < row.length) ∧ i ≠ h ∧ i ≠ t := fun i => by
      rw [List.mem_filter, inM_mem]
      show _ ∧ (!decide (i = h ∨ i = t)) = true ↔ _
      simp
    have inv : ∀ i, i ≠ h → i ≠ t → σ (σ i) = i := fun i n1 n2 => by
      by_cases c : h ≤ i ∧ i ≤ t
      · have e0 : σ i = h + t - i := if_pos c
        rw [e0]
        show (if h ≤ h + t - i ∧ h + t - i ≤ t then h + t - (h + t - i) else h + t - i) = i
        rw [if_pos (by omega)]; omega
      · have e0 : σ i = i := if_neg c
        rw [e0, e0]
    have st : ∀ i, (1 ≤ i ∧ i + 1 < row.length) ∧ i ≠ h ∧ i ≠ t → (1 ≤ σ i ∧ σ i + 1 < row.length) ∧ σ i ≠ h ∧ σ i ≠ t := fun i hi => by
      by_cases c : h ≤ i ∧ i ≤ t
      · have e0 : σ i = h + t - i := if_pos c
        rw [e0]; omega
      · have e0 : σ i = i := if_neg c
        rw [e0]; exact hi
    refine (List.perm_ext_iff_of_nodup (map_nodup hn fun x hx y hy e => ?_) hn).mpr fun i => ?_
    · have hx := (hmem x).mp hx
      have hy := (hmem y).mp hy
      rw [← inv x hx.2.1 hx.2.2, e, inv y hy.2.1 hy.2.2]
    · rw [hmem, List.mem_map]
      constructor
      · rintro ⟨j, hj, rfl⟩
        exact st j ((hmem j).mp hj)
      · intro hi
        exact ⟨σ i, (hmem _).mpr (st i hi), inv i hi.2.1 hi.2.2⟩
  refine ⟨((inM row).filter p).map (passW row), ((inM row).filter p).map (passW (turnM row h t)), ((inM row).filter fun i => !p i).map (passW row), ?_, ?_, ?_, fun q hq => ?_, fun q hq => ?_⟩
  · rw [← List.map_append]
    exact (List.filter_append_perm p _).symm.map _
  · refine ((List.filter_append_perm p (inM row)).symm.map _).trans ?_
    rw [List.map_append]
    refine List.Perm.append_left _ ?_
    rw [List.map_congr_left key]
    have := sig.map (passW row)
    rw [List.map_map] at this
    exact this
  · rw [List.length_map]
    exact filt_two (inM_nodup row)
  · obtain ⟨i, hi, rfl⟩ := List.mem_map.mp hq
    exact (lab i (of_decide_eq_true (List.mem_filter.mp hi).2)).2
  · obtain ⟨i, hi, rfl⟩ := List.mem_map.mp hq
    show (turnM row h t).getD i 0 = _
    rw [hσ]
    exact (lab i (of_decide_eq_true (List.mem_filter.mp hi).2)).1
theorem pass_turn {row G : List Nat} {h t : Nat} (c : Nat) (h1 : h < t) (h2 : t < row.length) (he : row.getD t 0 = row.getD h 0) (g : List (List Nat)) :
    dM (passM row c) g ≤ dM (passM (turnM row h t) c) g + if c = row.getD h 0 then 2 else 0 := by
  obtain ⟨X, Y, M, p1, p2, lx, hx, hy⟩ := turn_pass h1 h2 he
  have q1 : (passM row c).Perm (((X.filter fun q => decide (q.1 = c)).map (·.2)) ++ ((M.filter fun q => decide (q.1 = c)).map (·.2))) := by
    have := (p1.filter fun q => decide (q.1 = c)).map (·.2)
    rw [List.filter_append, List.map_append] at this
    exact this
  have q2 : (passM (turnM row h t) c).Perm (((Y.filter fun q => decide (q.1 = c)).map (·.2)) ++ ((M.filter fun q => decide (q.1 = c)).map (·.2))) := by
    have := (p2.filter fun q => decide (q.1 = c)).map (·.2)
    rw [List.filter_append, List.map_append] at this
    exact this
  rw [dM_perm q1, dM_perm q2]
  have a1 := dM_app ((X.filter fun q => decide (q.1 = c)).map (·.2)) ((M.filter fun q => decide (q.1 = c)).map (·.2)) g
  have a2 := dM_app ((Y.filter fun q => decide (q.1 = c)).map (·.2)) ((M.filter fun q => decide (q.1 = c)).map (·.2)) g
  have l1 : ((X.filter fun q => decide (q.1 = c)).map (·.2)).length ≤ if c = row.getD h 0 then 2 else 0 := by
    rw [List.length_map]
    split
    · exact Nat.le_trans (List.length_filter_le _ _) lx
    · rename_i ne
      have : X.filter (fun q => decide (q.1 = c)) = [] := by
        rw [List.filter_eq_nil_iff]
        intro q hq
        simp only [decide_eq_true_eq]
        intro e
        exact ne (by rw [← e, hx q hq])
      rw [this]; simp
  omega
def priceM (ps : List Nat) (c : Nat) : Nat := ps.getD (c - 97) 0
def PriceOk (ps : List Nat) : Prop := ps.length = 8 ∧ ∀ p ∈ ps, 1 ≤ p ∧ p ≤ 99
def PrD (ps : List Nat) (d : Dt) : Prop := d = .tup (ps.map fun p : Nat => .int (p : Int)) ∨ d = .tpk (ps.map fun p : Nat => .int (p : Int))
def floorT (row goal ps : List Nat) (c : Nat) : Nat := (dM (passM row c) (passM goal c) + 1) / 2 * priceM ps c
def floorM (row goal ps : List Nat) : Nat := (abcS.map (floorT row goal ps)).sum
def costM (ps : List Nat) : List Nat → List (Nat × Nat) → Nat
  | _, [] => 0
  | row, q :: ts => priceM ps (row.getD q.1 0) + costM ps (turnM row q.1 q.2) ts
theorem sum_le_one {S : List Nat} {f g : Nat → Nat} {a K : Nat} (hn : S.Nodup) (h : ∀ x ∈ S, x ≠ a → f x ≤ g x) (h1 : f a ≤ g a + K) : (S.map f).sum ≤ (S.map g).sum + K := by
  have key : ∀ {S : List Nat}, (∀ x ∈ S, x ≠ a → f x ≤ g x) → a ∉ S → (S.map f).sum ≤ (S.map g).sum := by
    intro S
    induction S with
    | nil => intro _ _; exact Nat.le_refl _
    | cons x S ih =>
      intro h ha
      have h2 := ih (fun y hy => h y (List.mem_cons_of_mem _ hy)) fun z => ha (List.mem_cons_of_mem _ z)
      have h3 := h x (List.mem_cons_self ..) fun z => ha (z ▸ List.mem_cons_self ..)
      rw [List.map_cons, List.map_cons, List.sum_cons, List.sum_cons]
      omega
  induction S with
  | nil => simp
  | cons x S ih =>
    obtain ⟨n1, n2⟩ := List.nodup_cons.mp hn
    rw [List.map_cons, List.map_cons, List.sum_cons, List.sum_cons]
    by_cases e : x = a
    · subst e
      have := key (S := S) (fun y hy => h y (List.mem_cons_of_mem _ hy)) n1
      omega
    · have h2 := ih n2 fun y hy => h y (List.mem_cons_of_mem _ hy)
      have h3 := h x (List.mem_cons_self ..) e
      omega
theorem floor_self (row ps : List Nat) : floorM row row ps = 0 := by
  unfold floorM
  have : ∀ S : List Nat, (S.map (floorT row row ps)).sum = 0 := by
    intro S
    induction S with
    | nil => rfl
    | cons x S ih =>
      rw [List.map_cons, List.sum_cons, ih]
      unfold floorT dM
      rw [remM_self]
      simp
  exact this _
theorem floor_le (ps : List Nat) : ∀ {ts : List (Nat × Nat)} {row : List Nat}, goesM [] row ts → floorM row (runM row ts) ps ≤ costM ps row ts
  | [], row, _ => by
    show floorM row row ps ≤ 0
    rw [floor_self]
    exact Nat.le_refl _
  | q :: ts, row, hg => by
    obtain ⟨hw, hg⟩ := hg
    obtain ⟨w1, w2, w4, _⟩ := whyM_iff.mp hw
    have ih := floor_le ps hg
    show floorM row (runM (turnM row q.1 q.2) ts) ps ≤ priceM ps (row.getD q.1 0) + costM ps (turnM row q.1 q.2) ts
    refine Nat.le_trans (?_ : _ ≤ floorM (turnM row q.1 q.2) (runM (turnM row q.1 q.2) ts) ps + priceM ps (row.getD q.1 0)) (by omega)
    unfold floorM
    refine sum_le_one (a := row.getD q.1 0) (by decide) (fun c _ ne => ?_) ?_
    · have := pass_turn (G := []) c w1 w2 w4.symm (passM (runM (turnM row q.1 q.2) ts) c)
      rw [if_neg ne] at this
      unfold floorT
      exact Nat.mul_le_mul_right _ (by omega)
    · have := pass_turn (G := []) (row.getD q.1 0) w1 w2 w4.symm (passM (runM (turnM row q.1 q.2) ts) (row.getD q.1 0))
      rw [if_pos rfl] at this
      unfold floorT
      generalize dM (passM row (row.getD q.1 0)) (passM (runM (turnM row q.1 q.2) ts) (row.getD q.1 0)) = x at this
      generalize dM (passM (turnM row q.1 q.2) (row.getD q.1 0)) (passM (runM (turnM row q.1 q.2) ts) (row.getD q.1 0)) = y at this
      have h3 : (x + 1) / 2 ≤ (y + 1) / 2 + 1 := by omega
      have h4 := Nat.mul_le_mul_right (priceM ps (row.getD q.1 0)) h3
      rw [Nat.add_mul, Nat.one_mul] at h4
      exact h4
theorem costM_snoc (ps : List Nat) (q : Nat × Nat) : ∀ {ts : List (Nat × Nat)} {row : List Nat}, costM ps row (ts ++ [q]) = costM ps row ts + priceM ps ((runM row ts).getD q.1 0)
  | [], row => by
    show priceM ps (row.getD q.1 0) + 0 = 0 + priceM ps (row.getD q.1 0)
    omega
  | p :: ts, row => by
    show priceM ps (row.getD p.1 0) + costM ps (turnM row p.1 p.2) (ts ++ [q]) = priceM ps (row.getD p.1 0) + costM ps (turnM row p.1 p.2) ts + _
    rw [costM_snoc ps q]
    have : runM row (p :: ts) = runM (turnM row p.1 p.2) ts := rfl
    rw [this]
    omega
theorem price_at {ps : List Nat} {c : Nat} {d : Dt} (h : (ps.map fun p : Nat => Dt.int (p : Int))[c - 97]? = some d) : d = .int ((priceM ps c : Nat) : Int) := by
  rw [List.getElem?_map] at h
  unfold priceM
  rw [List.getD_eq_getElem?_getD]
  cases e : ps[c - 97]? with
  | none => rw [e] at h; cases h
  | some x => rw [e] at h; cases h; rfl
theorem priceM_le {ps : List Nat} (h : PriceOk ps) {c : Nat} : priceM ps c ≤ 99 := by
  unfold priceM
  rw [List.getD_eq_getElem?_getD]
  cases e : ps[c - 97]? with
  | none => exact Nat.zero_le _
  | some x => exact (h.2 x (List.mem_of_getElem? e)).2
theorem passM_len (row : List Nat) (c : Nat) : (passM row c).length ≤ row.length - 2 := by
  unfold passM inM
  rw [List.length_map]
  refine Nat.le_trans (List.length_filter_le _ _) ?_
  rw [List.length_map, List.length_range']
  exact Nat.le_refl _
theorem isum_nat {α : Type} (f : α → Nat) : ∀ l : List α, (l.map fun x => ((f x : Nat) : Int)).sum = (((l.map f).sum : Nat) : Int)
  | [] => rfl
  | x :: l => by rw [List.map_cons, List.map_cons, List.sum_cons, List.sum_cons, isum_nat f l, Int.natCast_add]
theorem min_int (a b : Nat) : (if (b : Int) < (a : Int) then (b : Int) else (a : Int)) = ((min a b : Nat) : Int) := by
  split <;> omega
theorem eqV_txA (x y : List Nat) : eqV (Tx y) (Tx x) = decide (x = y) := by
  by_cases c : x = y
  · subst c; simp [eqV]
  · rw [decide_eq_false c]
    simp only [eqV]
    first
      | (rw [beq_eq_false_iff_ne]; exact fun z => c (@S_inj ziE _ _ z).symm)
      | (simp; exact fun z => c (@S_inj ziE _ _ z).symm)
section
variable [ZI]
def zCntT (x y : Dt) (R : DQ) : Prop := ∃ (ls : List (List Nat)) (a : List Nat), x = .lst (ls.map .str) ∧ y = .str a ∧ R false (.int (ls.count a : Nat))
theorem flat_txs (ls : List (List Nat)) : (ls.map fun x => Tx x).all flatV = true := by
  rw [List.all_map]
  exact List.all_eq_true.mpr fun _ _ => rfl
theorem cnt_txs (ls : List (List Nat)) (a : List Nat) : (ls.map fun x => Tx x).countP (fun y => eqV y (Tx a)) = ls.count a := by
  induction ls with
  | nil => rfl
  | cons x ls ih =>
    rw [List.map_cons, List.countP_cons, ih, List.count_cons, eqV_txA]
    by_cases e : a = x
    · subst e; simp
    · rw [decide_eq_false e, if_neg (by decide), if_neg (by simpa using Ne.symm e)]
theorem z_cntT {K : PySem.W.Frag} : OpZ (fun x y H Q => rCntV K x [y] H Q) zCntT := by
  intro c L H x y dx dy Q R h wx wy hr k
  obtain ⟨ls, a, rfl, rfl, hr⟩ := hr
  obtain ⟨p, xs, rfl, g1, g2⟩ := wx.lst h
  rw [FrAll.strs_inv g2] at g1
  obtain rfl := wy.scal_str h
  refine ⟨p, _, Tx a, rfl, rfl, SqL.of g1, rfl, flat_txs ls, ?_⟩
  rw [cnt_txs]
  exact k _ _ _ _ hr (h.int _)
/-- a method of a list that only looks, of one argument -/
@[reducible] def pLm1 (z : Dt → Dt → DQ → Prop) (pa : PTE) (ob : Opd) : PTE := fun s Q => pa s fun _ d s1 => match d with
  | .lst a => pOpd ob s1 fun gb s2 => match gb s2 with
    | some y => z (.lst a) y fun b d => Q b d s2
    | none => False
  | _ => False
theorem ce_lm1 {c : Ctx} {K : PySem.W.Frag} {r : V → List V → Hp → VK → Prop} {z : Dt → Dt → DQ → Prop} {ta tb : TE} {pa : PTE} {ob : Opd} (hz : OpZ (fun x y H Q => r x [y] H Q) z) (ha : CE c ta pa) (hb : CO c tb ob) : CE c (tBM K "list" r ta (tCons tb tNil)) (pLm1 z pa ob) := fun F s σ H Q R h hp k =>
  ha F s σ H _ _ h hp fun b d s1 v H1 q h1 => by
    split at q
    · rename_i a
      have hm := h1.mkfz
      obtain ⟨p0, xs0, ev, hx0, _⟩ := (show Wk (s1.zip σ ++ ((.fz (.lst a), some v) :: F)) (.lst a) v from .inl (List.mem_append_right _ (List.mem_cons_self ..))).lst hm.2
      refine ⟨by rw [ev]; exact ty_lst hx0, hb _ s1 σ H1 _ _ hm q fun gb s2 v2 H2 F2 q2 h2 w2 => ?_⟩
      split at q2
      · rename_i y ey
        have hx : Wk (s2.zip σ ++ (F2 ++ ((.fz (.lst a), some v) :: F))) (.lst a) v := .inl (List.mem_append_right _ (List.mem_append_right _ (List.mem_cons_self ..)))
        refine hz c _ H2 v v2 (.lst a) y Q _ h2.2 hx (w2 s2 [] H2 y ey h2) q2 fun b d v' H' rd hl => k _ _ _ _ _ rd ?_
        exact Rel.res (F2 := F2 ++ [(.fz (.lst a), some v)]) h2.1 (by rw [List.append_assoc]; exact hl)
      · exact q2.elim
    · exact q.elim
/-- x.remove(text), x one's own list of texts -/
@[reducible] def pRem (k : Nat) (tp : PTE) : PTE := fun s Q => match s[k]? with
  | some (.ow (.lst _)) => tp s fun _ d s1 => match s1[k]?, d with
    | some (.ow (.lst ds)), .str a => ∃ ls : List (List Nat), ds = ls.map .str ∧ a ∈ ls ∧ Q false .non (s1.set k (.ow (.lst ((ls.erase a).map .str))))
    | _, _ => False
  | _ => False
theorem erase_map {α β : Type} (f : α → β) : ∀ (l : List α) (j : Nat), (l.eraseIdx j).map f = (l.map f).eraseIdx j
  | [], _ => rfl
  | x :: l, 0 => rfl
  | x :: l, j + 1 => by
    rw [List.eraseIdx_cons_succ, List.map_cons, List.map_cons, List.eraseIdx_cons_succ, erase_map f l j]
theorem idx_first : ∀ {ls : List (List Nat)} {a : List Nat} {m : Nat}, m < ls.idxOf a → ls[m]? ≠ some a
  | [], a, m, h => by simp at h
  | x :: ls, a, m, h => by
    rw [List.idxOf_cons] at h
    by_cases e : x = a
    · rw [cond_eq_if, if_pos (by simpa using e)] at h
      omega
    · rw [cond_eq_if, if_neg (by simpa using e)] at h
      cases m with
      | zero => simpa using e
      | succ m =>
        rw [List.getElem?_cons_succ]
        exact idx_first (by omega)
theorem ce_rem {c : Ctx} {K : PySem.W.Frag} {k : Nat} {t : TE} {tp : PTE} (h : CE c t tp) : CE c (tBM K "list" rRemV (tVar k) (tCons t tNil)) (pRem k tp) := fun F s σ H Q R hr hp kk => by
  unfold pRem at hp
  split at hp
  · rename_i ds0 hs
    obtain ⟨p, hσ, ⟨xs0, hx, _⟩, _⟩ := hr.own hs
    refine ⟨_, hσ, ty_lst hx, h F s σ H _ _ hr hp fun b d s1 v H1 q h1 => ?_⟩
    split at q
    · rename_i ds a hs1
      obtain ⟨ls, rfl, hm, q⟩ := q
      have hv := str_of h1
      subst hv
      have h2 := h1.drop
      obtain ⟨p', hσ', ⟨xs, hx1, hx2⟩, ho⟩ := h2.own hs1
      rw [hσ] at hσ'
      cases hσ'
      have exs := FrAll.strs_inv hx2
      subst exs
      have hi : ls.idxOf a < ls.length := List.idxOf_lt_length_iff.mpr hm
      have hget : ls[ls.idxOf a]? = some a := by rw [List.getElem?_eq_getElem hi, List.getElem_idxOf hi]
      refine ⟨p, _, Tx a, ls.idxOf a, Tx a, rfl, rfl, hx1, rfl, flat_txs ls, by rw [List.getElem?_map, hget]; rfl, by rw [eqV_txA]; simp, fun m w' hm' hw => ?_, kk _ _ _ _ _ q (Rel.non ?_)⟩
      · rw [List.getElem?_map] at hw
        cases hq : ls[m]? with
        | none => rw [hq] at hw; cases hw
        | some w =>
          rw [hq] at hw
          cases hw
          rw [eqV_txA]
          exact decide_eq_false fun e => idx_first hm' (by rw [hq, e])
      · rw [List.erase_eq_eraseIdx_of_idxOf rfl, erase_map]
        refine h2.change hs1 hσ ExB.upd ⟨_, upd_same, FrAll.exb ExB.upd ho ?_⟩
        exact hx2.erase _
    · exact q.elim
  · exact hp.elim
end
end Lt
namespace Lt
open PySem PySem.Spec PyProof.Rows L2 Evl
open SX (S)
local macro_rules | `(tactic| walk_at "sz") => `(tactic| first | omega | assumption | (simp only [sizeLine_eq, List.length_append, List.length_map, List.length_cons, List.length_nil, List.length_reverse, List.length_set, List.length_eraseIdx, List.length_take, List.length_drop]; omega) | (rw [sizeLine_eq]; simp; omega) | (simp; omega) | (simp; done))
local macro_rules | `(tactic| walk_at "lift") => `(tactic| first | assumption | exact upd_same | (refine (show Ex _ _ by assumption) _ _ ?_; walk_at "lift") | (refine (show ExB _ _ _ by assumption) _ _ (by first | assumption | (apply Ne.symm; assumption)) ?_; walk_at "lift"))
local macro_rules | `(tactic| walk_at "liftR") => `(tactic| first | assumption | exact Or.inl upd_same | (refine Or.inl ?_; walk_at "lift") | (refine Or.inr ⟨_, ?_⟩; walk_at "lift") | (refine Rd.ex ?_ (show Ex _ _ by assumption); walk_at "liftR"))
local macro_rules | `(tactic| walk_at "ixd") => `(tactic| (intro v hv; first | (simp at hv; subst hv) | (simp at hv; obtain ⟨_, _, rfl⟩ := hv) | skip))
local macro_rules | `(tactic| walk_at "s1") => `(tactic| first | ((with_reducible refine w_var (v := ?vv) ?hx ?hk); (case hx => exact rfl)) | ((with_reducible refine w_aug (x := ?vv) ?hx ?hk); (case hx => exact rfl)) | with_reducible first
  | refine w_nx ?_ | refine w_rt ?_ | refine w_bk ?_ | refine w_ct ?_
  | refine w_seq ?_ | refine w_next ?_ | refine w_asg ?_ | refine w_name ?_ | refine w_ret ?_ | refine w_retN ?_ | refine w_drop ?_ | refine w_ifS ?_ | refine w_break ?_ | refine w_cont ?_
  | refine w_c ?_ | refine w_op ?_ | refine w_un ?_ | refine w_neg ?_ | refine w_cb ?_ | refine w_callN ?_ | refine w_call ?_ | refine w_callK ?_ | refine w_kb1 ?_ | refine w_kb2 ?_ | refine w_kb3 ?_ | refine w_kd1 ?_ | refine w_itT ?_ | refine w_itF ?_ | refine w_itNT ?_ | refine w_itNF ?_ | refine w_kd2 ?_ | refine w_kd3 ?_ | refine w_cons ?_ | refine w_nil ?_ | refine w_if ?_ | refine w_sl ?_
  | refine w_part ?_ | refine w_intk ?_ | refine w_noPart ?_ | refine w_tup ?_ | refine w_lst ?_ | refine w_test ?_ | refine w_tB ?_ | refine w_blk ?_ | refine w_and ?_ | refine w_or ?_ | refine w_not ?_ | refine w_andV ?_ | refine w_orV ?_ | refine w_notV ?_ | refine w_chain ?_
  | refine w_par2 ?_ | refine w_par3 ?_ | refine w_two ?_ | refine w_three ?_ | refine w_gcons ?_ | refine w_gnil ?_ | refine w_gsub ?_ | refine w_bm ?_ | refine w_bm0 ?_
  | refine w_addI ?_ | refine w_I0 ?_ | refine w_ltI ?_ | refine w_gtI ?_ | refine w_leI ?_ | refine w_geI ?_ | refine w_eqI ?_ | refine w_neI ?_ | refine w_eqC ?_ | refine w_neC ?_ | refine w_ltC ?_ | refine w_gtC ?_ | refine w_leC ?_ | refine w_geC ?_ | refine w_eqT ?_ | refine w_neT ?_ | refine w_ltT ?_ | refine w_gtT ?_ | refine w_leT ?_ | refine w_geT ?_ | refine w_inS ?_ | refine w_notInS ?_)
local macro_rules | `(tactic| walk_at "cI") => `(tactic| first | omega | (exact ⟨by omega, by omega⟩) | (exact Or.inl ⟨by omega, by omega⟩) | (exact Or.inr ⟨by omega, by omega⟩) | (exact ⟨by omega, by omega, by omega⟩) | decide)
local macro_rules | `(tactic| walk_at "s2") => `(tactic| first
  | ((with_reducible refine w_lenX ?hl ?hk); (case hl => walk_at "sz"))
  | ((with_reducible refine w_lenL (xs := ?xs) ?hp ?hk); (case hp => walk_at "lift"))
  | ((with_reducible refine w_lenU (xs := ?xs) ?hp ?hk); (case hp => walk_at "liftR"))
  | ((with_reducible refine w_ixX ?hl ?h0 ?h1 ?hk); (case hl => walk_at "sz"); (case h0 => walk_at "sz"); (case h1 => walk_at "sz"); walk_at "ixd")
  | ((with_reducible refine w_ixL (xs := ?xs) ?hp ?h0 ?h1 ?hk); (case hp => walk_at "lift"); (case h0 => walk_at "sz"); (case h1 => walk_at "sz"); walk_at "ixd")
  | ((with_reducible refine w_ixU (xs := ?xs) ?hp ?h0 ?h1 ?hk); (case hp => walk_at "liftR"); (case h0 => walk_at "sz"); (case h1 => walk_at "sz"); walk_at "ixd")
  | ((with_reducible refine w_slX ?hl ?hk); (case hl => walk_at "sz"))
  | ((with_reducible refine w_revX ?hl))
  | ((with_reducible refine w_revX2 ?hl ?hk); (case hl => walk_at "sz"))
  | ((with_reducible refine w_slL (xs := ?xs) ?hp ?hk); (case hp => walk_at "lift"))
  | ((with_reducible refine w_slU (xs := ?xs) ?hp ?hk); (case hp => walk_at "lift"))
  | ((with_reducible refine w_addT ?hl ?hk); (case hl => walk_at "sz"))
  | ((with_reducible refine w_addL (xs := ?xs) (ys := ?ys) ?hp ?hq ?hl ?hk); (case hp => walk_at "lift"); (case hq => walk_at "lift"); (case hl => walk_at "sz"))
  | ((with_reducible refine w_addU (xs := ?xs) (ys := ?ys) ?hp ?hq ?hl ?hk); (case hp => walk_at "lift"); (case hq => walk_at "lift"); (case hl => walk_at "sz"))
  | ((with_reducible refine w_listX ?hl ?hk); (case hl => walk_at "sz"))
  | ((with_reducible refine w_listL (xs := ?xs) ?hp ?hk); (case hp => walk_at "lift"))
  | ((with_reducible refine w_listU (xs := ?xs) ?hp ?hk); (case hp => walk_at "liftR"))
  | ((with_reducible refine w_gtup (xs := ?xs) ?hp ?hn ?hk); (case hp => walk_at "liftR"); (case hn => rfl))
  | (with_reducible refine w_revL ?_) | ((with_reducible refine w_revLk (xs := ?xs) ?hp ?hk); (case hp => walk_at "lift"); intro p hp; generalize hG : upd _ p _ = H2; have e : Ex _ H2 := (by rw [← hG]; exact Ex.new hp); have h2 : H2 p = some _ := (by rw [← hG]; exact upd_same); clear hG)
  | (with_reducible refine w_for ?_) | (with_reducible refine w_iany ?_) | (with_reducible refine w_lc ?_) | (with_reducible refine w_anyX ?_)
  | ((with_reducible refine w_anyU (xs := ?xs) ?hp ?hk); (case hp => walk_at "liftR"))
  | ((with_reducible refine w_anyL (xs := ?xs) ?hp ?hk); (case hp => walk_at "lift"))
  | (with_reducible refine w_rng1 ?_) | ((with_reducible refine w_rng1k ?hp ?hk); (case hp => constructor <;> walk_at "sz"))
  | (with_reducible refine w_rng2 ?_) | ((with_reducible refine w_rng2k ?hp ?hk); (case hp => refine ⟨?_, ?_, ?_, ?_⟩ <;> walk_at "sz"))
  | (with_reducible refine w_enumX ?_) | (with_reducible refine w_enumXk ?_) | (with_reducible refine w_zipX ?_) | (with_reducible refine w_zipXk ?_)
  | (with_reducible refine w_enumL ?_) | ((with_reducible refine w_enumLk (xs := ?xs) ?hp ?hk); (case hp => walk_at "lift"))
  | (with_reducible refine w_zipL ?_) | ((with_reducible refine w_zipLk (xs := ?xs) (ys := ?ys) ?hp ?hq ?hk); (case hp => walk_at "lift"); (case hq => walk_at "lift"))
  | (with_reducible refine w_tyS ?_)
  | ((with_reducible refine w_join1 (l := ?l) ?hp ?hl ?hk); (case hp => walk_at "lift"); (case hl => walk_at "sz"))
  | (with_reducible refine w_isN ?_) | ((with_reducible refine w_isNx ?hx ?hk); (case hx => first | assumption | (intro q; cases q; done))) | (with_reducible refine w_notN ?_) | ((with_reducible refine w_notNx ?hx ?hk); (case hx => first | assumption | (intro q; cases q; done)))
  | (with_reducible refine w_neB1 ?_) | (with_reducible refine w_neB2 ?_) | (with_reducible refine w_neB3 ?_) | (with_reducible refine w_neB4 ?_) | (with_reducible refine w_eqB ?_) | (with_reducible refine w_eqStr ?_)
  | (with_reducible refine w_yes ?_) | (with_reducible refine w_int1 ?_)
  | ((with_reducible refine w_I ?hc ?hk); (case hc => walk_at "cI"))
  | ((with_reducible refine w_isLT (xs := ?xs) ?hp ?hn ?hb ?hk); (case hp => walk_at "lift"); (case hn => decide); (case hb => decide))
  | ((with_reducible refine w_isLF (xs := ?xs) ?hp ?hn ?hb ?hk); (case hp => walk_at "lift"); (case hn => decide); (case hb => decide))
  | ((with_reducible refine w_isUT (xs := ?xs) ?hp ?hn ?hb ?hk); (case hp => walk_at "liftR"); (case hn => decide); (case hb => decide))
  | ((with_reducible refine w_isUF (xs := ?xs) ?hp ?hn ?hb ?hk); (case hp => walk_at "liftR"); (case hn => decide); (case hb => decide))
  | ((with_reducible refine w_isT (t := ?t) ?ht ?hn ?hb ?hk); (case ht => first | exact Tg.non | exact Tg.bl _ | exact Tg.int _ | exact Tg.str _); (case hn => decide); (case hb => decide))
  | ((with_reducible refine w_isF (t := ?t) ?ht ?hn ?hb ?hk); (case ht => first | exact Tg.non | exact Tg.bl _ | exact Tg.int _ | exact Tg.str _); (case hn => decide); (case hb => decide))
  | ((with_reducible refine w_new ?hn ?hk); (case hn => walk_at "sz"); intro p H2 hp e h2)
  | ((with_reducible refine w_newN ?hk); intro p H2 hp e h2))
local macro_rules | `(tactic| walk_at "s3") => `(tactic| first
  | ((with_reducible refine w_tyL (xs := ?xs) ?hp ?hk); (case hp => walk_at "lift"))
  | ((with_reducible refine w_app (xs := ?xs) ?hp ?hl ?hk); (case hp => walk_at "lift"); (case hl => walk_at "sz"); intro H2 e h2)
  | ((with_reducible refine w_ext (xs := ?xs) (zs := ?zs) ?hp ?hq ?hl ?hk); (case hp => walk_at "lift"); (case hq => walk_at "lift"); (case hl => walk_at "sz"); intro H2 e h2)
  | ((with_reducible refine w_popAt (xs := ?xs) ?hp ?hk ?hs ?hh); (case hp => walk_at "lift"); (case hk => walk_at "sz"); (case hs => walk_at "sz"); intro H2 v hv e h2)
  | ((with_reducible refine w_setL (xs := ?xs) ?hp ?hk ?hs ?hh); (case hp => walk_at "lift"); (case hk => walk_at "sz"); (case hs => walk_at "sz"); intro H2 e h2))
local macro_rules | `(tactic| walk_at "st") => `(tactic| first | walk_at "s1" | walk_at "s2" | walk_at "s3")
local macro_rules | `(tactic| walk_at "gx") => `(tactic| repeat first | walk_at "s1" | walk_at "s2")
local macro_rules | `(tactic| walk_at "go") => `(tactic| repeat walk_at "st")
local macro_rules | `(tactic| walk_at "br") => `(tactic| first | (with_reducible refine w_iteD (fun hc => ?_) (fun hc => ?_)) | (with_reducible refine w_iteN (fun hc => ?_) (fun hc => ?_)) | (with_reducible refine w_iteB (fun hc => ?_) (fun hc => ?_)))
local macro_rules | `(tactic| walk_at "tt") => `(tactic| ((with_reducible refine w_iteT ?hc ?hk); (case hc => first | rfl | assumption | (simp; done) | (simp; omega) | (simp_all; done))))
local macro_rules | `(tactic| walk_at "ff") => `(tactic| ((with_reducible refine w_iteF ?hc ?hk); (case hc => first | rfl | assumption | (simp; done) | (simp; omega) | (simp_all; done))))
local macro_rules | `(tactic| walk_at "zs") => `(tactic| simp only [zStr_s, zTupW_l, zListD_d, zIx_k, zSplitS_s, zInT_s, zNotInT_s, zMulZ_i, zMulZ_s, zIntT_i, zIntT_t, zIntT_f, repT_0, repT_1, zInAdd_i, zInSub_i, zStw_s, zEnw_s, zMax_i, zAdd_i, zAdd_s, zAdd_l, zAdd_t, zIpAdd_i, zIpAdd_s, zIpSub_i, zSub_i, zMul_i, zMod_i, zDiv_i, zPow_i, zNeg_i, zLt_c, zGt_c, zLe_c, zGe_c, zLt_i, zGt_i, zLe_i, zGe_i, zEq_i, zNe_i, zEq_c, zNe_c, zEq_b, zNe_b, zEq_nil, zNe_nil, zEq_nilT, zNe_nilT, zIn_s, zNotIn_s, zIsN_n, zNotN_n, zIsN_i, zIsN_s, zIsN_b, zIsN_t, zIsN_l, zNotN_i, zNotN_s, zNotN_b, zNotN_t, zNotN_l, zLen_s, zLen_l, zLen_t, zAbs_i, zList_s, zList_l, zList_t, zTup_l, zTup_t, zTup_k, zLen_k, zList_k, zIsN_k, zNotN_k, zSl_k, zIs_k, zAdd_k, zSetS_s, zSetS_l, zSetS_t, zSetS_t2, zCnt_t, zSortA_t, zSortA_k, zSortA_t2, zSortA_s, isDic_d, zDGk_d, zDInk_d, zDInk_n, zSrtDk_d, zDGet_d, zDPut_d, zRev_s, zRevL_l, zMin_i, zMin_s, zSl_s, zSl_l, zSl_t, zIs_s, zIs_i, zIs_b, zIs_n, zIs_l, zIs_t, isi_ss, isi_st, isi_sl, isi_si, isi_sb, isi_is, isi_it, isi_il, isi_ii, isi_ib, isi_bs, isi_bt, isi_bl, isi_bi, isi_bb, isi_ns, isi_nt, isi_nl, isi_ni, isi_nb, isi_ts, isi_tt, isi_tl, isi_ti, isi_tb, isi_ls, isi_lt, isi_ll, isi_li, isi_lb, ifT, ifF, if_true, if_false, Bool.false_eq_true, decide_true, decide_false, zIx_t0, zIx_t1, zIx_t2, true_and, Bool.not_true, Bool.not_false, pSl_f, pSl_o, pSl_k, mkS_t, mkS_f, List.set_cons_zero, List.set_cons_succ, List.getElem?_cons_zero, List.getElem?_cons_succ, wipeS, frzS, pStart, List.map_cons, List.map_nil, List.replicate_succ, List.replicate_zero, List.cons_append, List.nil_append, List.append_nil, List.length_cons, List.length_nil, List.isEmpty_nil, List.isEmpty_cons, Nat.zero_add, Nat.reduceAdd, Nat.reduceLeDiff, Int.toNat_natCast])
local macro_rules | `(tactic| walk_at "z") => `(tactic| ((with_reducible conv => whnf); repeat (walk_at "zs"; (with_reducible conv => whnf))))
local macro_rules | `(tactic| walk_at "sc") => `(tactic| first | walk_at "sz" | (refine ⟨?_, ?_⟩ <;> walk_at "sz") | (refine ⟨?_, ?_, ?_, ?_⟩ <;> walk_at "sz"))
local macro_rules | `(tactic| walk_at "zz") => `(tactic| (walk_at "z"; repeat ((refine And.intro (by walk_at "sc") ?_); walk_at "z")))
local macro_rules | `(tactic| walk_at "as") => `(tactic| ((with_reducible refine And.intro ?pre ?rest); (case pre => walk_at "sc")))
local macro_rules | `(tactic| walk_at "zr") => `(tactic| (walk_at "z"; repeat (walk_at "as"; walk_at "z")))
local macro_rules | `(tactic| walk_at "lc") => `(tactic| (with_reducible refine pLc_go ?_; walk_at "zz"))
local macro_rules | `(tactic| walk_at "lc2") => `(tactic| (with_reducible refine pLc2_go ?_; walk_at "zz"))
local macro_rules | `(tactic| walk_at "dc") => `(tactic| (with_reducible refine pDc_go ?_; walk_at "zz"))
local macro_rules | `(tactic| walk_at "fd") => `(tactic| (refine forD_go rfl ?_; dsimp only [Bool.false_eq_true, if_false, if_true]))
local macro_rules | `(tactic| walk_at "for") => `(tactic| (with_reducible refine pFor_go ?_; walk_at "zz"))
local macro_rules | `(tactic| walk_at "nes") => `(tactic| (refine Eq.mpr zNe_s ?_; walk_at "z"))
local macro_rules | `(tactic| walk_at "eqs") => `(tactic| (refine Eq.mpr zEq_s ?_; walk_at "z"))
local macro_rules | `(tactic| walk_at "pre") => `(tactic| first | assumption | omega | (refine (?_ : RowOk _).1; assumption) | (refine (?_ : RowOk _).2.1; assumption) | (refine (?_ : RowOk _).2.2; assumption) | (refine RowOk.ok ?_; assumption) | (refine Nat.le_trans (?_ : RowOk _).2.1 ?_; (first | assumption | decide); done) | ((refine Nat.le_trans (?_ : RowOk _).2.1 (by decide)); assumption) | exact List.nil_sublist _ | walk_at "sz" | decide)
local macro_rules | `(tactic| walk_at "an") => `(tactic| ((with_reducible refine And.intro ?pre ?rest); (case pre => walk_at "pre")))
local macro_rules | `(tactic| walk_at "cl") => `(tactic| ((repeat apply Exists.intro); refine And.intro (by first | rfl | exact (rfl : _ = _)) ?_; (repeat walk_at "an"); walk_at "zr"))
def top (i : Nat) : Stmt := PySem.Challenge.pw_liketurns_k58_what_turns_cost.main.body.getD i (.Pass ⟨0, 0, 0, 0⟩)
abbrev s__law_dice : Stmt := top 32
abbrev s__law_off : Stmt := top 33
abbrev s__law_row : Stmt := top 34
abbrev s__law_mixed : Stmt := top 35
abbrev s__law_signs : Stmt := top 36
abbrev s__law_prices : Stmt := top 37
abbrev s__law_turns : Stmt := top 38
abbrev s__law_turned : Stmt := top 39
abbrev s__law_cost : Stmt := top 40
abbrev s__law_stirred : Stmt := top 41
abbrev s_need_row : Stmt := top 10
abbrev s_is_number : Stmt := top 9
abbrev s_need_prices : Stmt := top 23
abbrev s_free_places : Stmt := top 16
abbrev s_name_of : Stmt := top 17
abbrev s_threads_of : Stmt := top 18
abbrev s_first_apart : Stmt := top 19
abbrev s_apart : Stmt := top 20
abbrev s_pair_of : Stmt := top 11
abbrev s_passings : Stmt := top 28
abbrev s_changed : Stmt := top 29
abbrev s_price_of : Stmt := top 24
abbrev s_floor : Stmt := top 30
abbrev s_why_not : Stmt := top 13
abbrev s_behind : Stmt := top 14
abbrev s_gone : Stmt := top 25
abbrev s_judged : Stmt := top 27
abbrev s_cost : Stmt := top 26
abbrev s__law_floor : Stmt := top 43
abbrev s__law_alike : Stmt := top 42
abbrev s_law : Stmt := top 44
structure Txt (K : PySem.W.Frag) (mg : Str → Option Value) : Prop where
  z_abs : mg "abs" = none
  z_all : mg "all" = none
  z_bool : mg "bool" = none
  z_enumerate : mg "enumerate" = none
  z_int : mg "int" = none
  z_isinstance : mg "isinstance" = none
  z_len : mg "len" = none
  z_list : mg "list" = none
  z_min : mg "min" = none
  z_range : mg "range" = none
  z_set : mg "set" = none
  z_sorted : mg "sorted" = none
  z_str : mg "str" = none
  z_sum : mg "sum" = none
  z_tuple : mg "tuple" = none
  z_zip : mg "zip" = none
  c_MOST_PRICE : ∃ u, mg "MOST_PRICE" = some u ∧ RelV (.int 99) u
  c_MOST_SIGNS : ∃ u, mg "MOST_SIGNS" = some u ∧ RelV (.int 40) u
  c_SIGNS : ∃ u, mg "SIGNS" = some u ∧ RelV (Tx [97, 98, 99, 100, 101, 102, 103, 104]) u
  f__law_dice : ∃ (f : Addr) (fd : FuncData), mg "_law_dice" = some (.ref f) ∧ FunD K "_law_dice" "_law_dice" (defArgs s__law_dice) (defBody s__law_dice) (defScope s__law_dice) [] [] f fd
  f__law_off : ∃ (f : Addr) (fd : FuncData), mg "_law_off" = some (.ref f) ∧ FunD K "_law_off" "_law_off" (defArgs s__law_off) (defBody s__law_off) (defScope s__law_off) [] [] f fd
  f__law_row : ∃ (f : Addr) (fd : FuncData), mg "_law_row" = some (.ref f) ∧ FunD K "_law_row" "_law_row" (defArgs s__law_row) (defBody s__law_row) (defScope s__law_row) [] [] f fd
  f__law_mixed : ∃ (f : Addr) (fd : FuncData), mg "_law_mixed" = some (.ref f) ∧ FunD K "_law_mixed" "_law_mixed" (defArgs s__law_mixed) (defBody s__law_mixed) (defScope s__law_mixed) [] [] f fd
  f__law_signs : ∃ (f : Addr) (fd : FuncData), mg "_law_signs" = some (.ref f) ∧ FunD K "_law_signs" "_law_signs" (defArgs s__law_signs) (defBody s__law_signs) (defScope s__law_signs) [] [] f fd
  f__law_prices : ∃ (f : Addr) (fd : FuncData), mg "_law_prices" = some (.ref f) ∧ FunD K "_law_prices" "_law_prices" (defArgs s__law_prices) (defBody s__law_prices) (defScope s__law_prices) [] [] f fd
  f__law_turns : ∃ (f : Addr) (fd : FuncData), mg "_law_turns" = some (.ref f) ∧ FunD K "_law_turns" "_law_turns" (defArgs s__law_turns) (defBody s__law_turns) (defScope s__law_turns) [] [] f fd
  f__law_turned : ∃ (f : Addr) (fd : FuncData), mg "_law_turned" = some (.ref f) ∧ FunD K "_law_turned" "_law_turned" (defArgs s__law_turned) (defBody s__law_turned) (defScope s__law_turned) [] [] f fd
  f__law_cost : ∃ (f : Addr) (fd : FuncData), mg "_law_cost" = some (.ref f) ∧ FunD K "_law_cost" "_law_cost" (defArgs s__law_cost) (defBody s__law_cost) (defScope s__law_cost) [] [] f fd
  f__law_stirred : ∃ (f : Addr) (fd : FuncData), mg "_law_stirred" = some (.ref f) ∧ FunD K "_law_stirred" "_law_stirred" (defArgs s__law_stirred) (defBody s__law_stirred) (defScope s__law_stirred) [] [] f fd
  f_need_row : ∃ (f : Addr) (fd : FuncData), mg "need_row" = some (.ref f) ∧ FunD K "need_row" "need_row" (defArgs s_need_row) (defBody s_need_row) (defScope s_need_row) [] [] f fd
  f_is_number : ∃ (f : Addr) (fd : FuncData), mg "is_number" = some (.ref f) ∧ FunD K "is_number" "is_number" (defArgs s_is_number) (defBody s_is_number) (defScope s_is_number) [] [] f fd
  f_need_prices : ∃ (f : Addr) (fd : FuncData), mg "need_prices" = some (.ref f) ∧ FunD K "need_prices" "need_prices" (defArgs s_need_prices) (defBody s_need_prices) (defScope s_need_prices) [] [] f fd
  f_free_places : ∃ (f : Addr) (fd : FuncData), mg "free_places" = some (.ref f) ∧ FunD K "free_places" "free_places" (defArgs s_free_places) (defBody s_free_places) (defScope s_free_places) [] [] f fd
  f_name_of : ∃ (f : Addr) (fd : FuncData), mg "name_of" = some (.ref f) ∧ FunD K "name_of" "name_of" (defArgs s_name_of) (defBody s_name_of) (defScope s_name_of) [] [] f fd
  f_threads_of : ∃ (f : Addr) (fd : FuncData), mg "threads_of" = some (.ref f) ∧ FunD K "threads_of" "threads_of" (defArgs s_threads_of) (defBody s_threads_of) (defScope s_threads_of) [] [] f fd
  f_first_apart : ∃ (f : Addr) (fd : FuncData), mg "first_apart" = some (.ref f) ∧ FunD K "first_apart" "first_apart" (defArgs s_first_apart) (defBody s_first_apart) (defScope s_first_apart) [] [] f fd
  f_apart : ∃ (f : Addr) (fd : FuncData), mg "apart" = some (.ref f) ∧ FunD K "apart" "apart" (defArgs s_apart) (defBody s_apart) (defScope s_apart) [] [] f fd
  f_pair_of : ∃ (f : Addr) (fd : FuncData), mg "pair_of" = some (.ref f) ∧ FunD K "pair_of" "pair_of" (defArgs s_pair_of) (defBody s_pair_of) (defScope s_pair_of) [] [] f fd
  f_passings : ∃ (f : Addr) (fd : FuncData), mg "passings" = some (.ref f) ∧ FunD K "passings" "passings" (defArgs s_passings) (defBody s_passings) (defScope s_passings) [] [] f fd
  f_changed : ∃ (f : Addr) (fd : FuncData), mg "changed" = some (.ref f) ∧ FunD K "changed" "changed" (defArgs s_changed) (defBody s_changed) (defScope s_changed) [] [] f fd
  f_price_of : ∃ (f : Addr) (fd : FuncData), mg "price_of" = some (.ref f) ∧ FunD K "price_of" "price_of" (defArgs s_price_of) (defBody s_price_of) (defScope s_price_of) [] [] f fd
  f_floor : ∃ (f : Addr) (fd : FuncData), mg "floor" = some (.ref f) ∧ FunD K "floor" "floor" (defArgs s_floor) (defBody s_floor) (defScope s_floor) [] [] f fd
  f_why_not : ∃ (f : Addr) (fd : FuncData), mg "why_not" = some (.ref f) ∧ FunD K "why_not" "why_not" (defArgs s_why_not) (defBody s_why_not) (defScope s_why_not) [] [] f fd
  f_behind : ∃ (f : Addr) (fd : FuncData), mg "behind" = some (.ref f) ∧ FunD K "behind" "behind" (defArgs s_behind) (defBody s_behind) (defScope s_behind) [] [] f fd
  f_gone : ∃ (f : Addr) (fd : FuncData), mg "gone" = some (.ref f) ∧ FunD K "gone" "gone" (defArgs s_gone) (defBody s_gone) (defScope s_gone) [] [] f fd
  f_judged : ∃ (f : Addr) (fd : FuncData), mg "judged" = some (.ref f) ∧ FunD K "judged" "judged" (defArgs s_judged) (defBody s_judged) (defScope s_judged) [] [] f fd
  f_cost : ∃ (f : Addr) (fd : FuncData), mg "cost" = some (.ref f) ∧ FunD K "cost" "cost" (defArgs s_cost) (defBody s_cost) (defScope s_cost) [] [] f fd
  f__law_floor : ∃ (f : Addr) (fd : FuncData), mg "_law_floor" = some (.ref f) ∧ FunD K "_law_floor" "_law_floor" (defArgs s__law_floor) (defBody s__law_floor) (defScope s__law_floor) [] [] f fd
  f__law_alike : ∃ (f : Addr) (fd : FuncData), mg "_law_alike" = some (.ref f) ∧ FunD K "_law_alike" "_law_alike" (defArgs s__law_alike) (defBody s__law_alike) (defScope s__law_alike) [] [] f fd
section
variable [ZI]
abbrev N__law_dice : List Str := ["_law_script", "_law_k", "_law_found", "_law_cell"]
theorem sc__law_dice : FnScope N__law_dice ["_law_script", "_law_k"] (defScope s__law_dice) := ⟨rfl, rfl, rfl, by decide +kernel, rfl, by decide +kernel, by decide +kernel⟩
def sp__law_dice (K : PySem.W.Frag) : Sp := fun vs H Q _ => ∃ (a : Addr) (ns : List Int) (k : Int), vs = [.ref a, .int k] ∧ SqL K H a (ns.map V.int) ∧ ns.length ≤ 63 ∧ 0 ≤ k ∧ k < 2147483647 ∧
  ∀ p H', H p = none → Ex H H' → H' p = some (DiceO p) → Q (.ref p) H'
theorem ok__law_dice {P : Program} {w : World} {K : PySem.W.Frag} {mg : Str → Option Value} {base : Heap} (T : Txt K mg) : Has P w K mg base CX0 1 "_law_dice" ["_law_script", "_law_k"] (sp__law_dice K) := by
  obtain ⟨f, fd, g, F⟩ := T.f__law_dice
  refine ⟨f, fd, g, F.kp, F.bindsN (fun _ _ _ _ _ _ us hl => match us, hl with | [_, _], _ => rfl), F.ok sc__law_dice (fun vs H Q E h => ?_) (fun cdv A outer s H vs Q E hr h => ?_)⟩
  · repeat (first | (obtain ⟨e, _⟩ := h; exact congrArg List.length e) | (obtain ⟨_, h⟩ := h))
  have hu64 : (A.deeper (envOfC "_law_dice" (defScope s__law_dice) s.heap.objs.size f cdv)).units + 64 < cLine := hr.units
  refine ⟨_, PSs.nox (pss_close (pss_cons (ps_set (i := 2) sc__law_dice.nd rfl (Or.inl rfl) (pv 1))
      (pss_cons (ps_for PassesOwn.never rfl (pi_anyK (K := K) rfl (pv 0)) (pg_name (i := 3) sc__law_dice.nd rfl (Or.inl rfl)) (pss_one (ps_set (i := 2) sc__law_dice.nd rfl (Or.inl rfl) (pe_op op_modN (pe_op op_addU (pe_op op_mul (pv 2) pe_int) (pe_callB call_abs (by rfl) T.z_abs (by decide +kernel) (pa_cons (pv 3) pa_nil))) pe_int))))
      (pss_one (ps_ret (pe_op op_addU (pe_lstX (pa_cons (pv 2) (pa_cons pe_int pa_nil))) (pe_lc (own := [("_law_cell", 3)]) rfl sc__law_dice.nd (pi_anyK (K := K) rfl (pv 0)) (blkOk_by (own := [("_law_cell", 3)]) (N := N__law_dice) (sc := defScope s__law_dice) (by decide +kernel)) (fun _ _ _ _ _ => (pg_name (i := 3) sc__law_dice.nd rfl (Or.inl rfl))) (fun _ _ _ _ _ => (pts_cut (pts_one (pt_cmpR op_geU (pv 3) (pe_op op_pow pe_int pe_int) (nomark _))))) (fun _ _ _ _ _ => (pe_cut (pv 3)))))))))), ?_⟩
  obtain ⟨a, ns, k, rfl, ha, hn, k0, k1, kk⟩ := h
  unfold tClose
  (generalize hst : L2.start _ _ = st0; simp only [L2.start, N__law_dice, List.map_cons, List.map_nil, List.length_cons, List.length_nil, Nat.reduceAdd, Nat.reduceSub, List.replicate_succ, List.replicate_zero, List.cons_append, List.nil_append, List.append_nil] at hst; subst hst)
  walk_at "go"
  refine w_anyK ha ?_
  refine forX_list (xs := ns.map V.int) (fun i σ H' => ∃ (y : Int) (c : Option V), σ = [some (.ref a), some (.int k), some (.int y), c] ∧ H' = H ∧ 0 ≤ y ∧ y < 2147483647) ⟨k, none, rfl, rfl, k0, k1⟩ (fun i σ H' _ ⟨_, _, _, e, _⟩ => e ▸ ha) ?_ ?_
  · rintro i x σ H' hx ⟨y, c, rfl, rfl, y0, y1⟩
    simp at hx
    obtain ⟨z, hz, rfl⟩ := hx
    walk_at "go"
    refine ⟨_, _, rfl, rfl, ?_, ?_⟩
    · rw [Int.fmod_eq_emod_of_nonneg _ (by omega)]
      exact Int.emod_nonneg _ (by omega)
    · rw [Int.fmod_eq_emod_of_nonneg _ (by omega)]
      exact Int.emod_lt_of_pos _ (by omega)
  · rintro σ H' ⟨y, c, rfl, rfl, y0, y1⟩
    walk_at "go"
    rename_i p H2 hp e h2
    refine w_anyK (ex_l e ha) ?_
    refine lcX_1 walk_list (by simp; omega) (fun i => ((ns.take i).filter (fun z => decide (1000000000000000000 ≤ z))).map PyData.int) rfl (fun H'' e' => ex_l (e.trans e') ha) (fun v => rfl) ?_ ?_
    · rintro i x H1 H3 hi e' ⟨rfl, hx⟩
      simp at hx
      obtain ⟨z, hz, rfl⟩ := hx
      unfold LcStep
      walk_at "go"
      walk_at "br"
      · rename_i hc
        have hc' : (1000000000000000000 : Int) ≤ z := by simpa using hc
        walk_at "go"
        refine ⟨Ex.refl _, .int z, rfl, .int z, ?_⟩
        show _ = _
        rw [take_more hz]
        simp [hc']
      · rename_i hc
        refine ⟨Ex.refl _, ?_⟩
        have hc' : ¬ (1000000000000000000 : Int) ≤ z := by simpa using hc
        show _ = _
        rw [take_more hz]
        simp [hc']
    · intro q H3 acc hq e3 h3 r hl
      have hacc := rpall_ints r
      subst hacc
      simp only [List.length_map, List.take_length] at hl h3
      walk_at "go"
      rename_i p4 H4 hp4 e4 h4
      have f0 : H' p4 = none := by
        cases h : H' p4 with
        | none => rfl
        | some o => exact absurd hp4 (by rw [e3 _ _ (e _ _ h)]; simp)
      refine ⟨p4, y :: 0 :: ns.filter (fun z => decide (1000000000000000000 ≤ z)), by simpa using h4, ⟨by simp, by simp; omega, ?_, ?_⟩, ?_⟩
      · intro z hz
        simp at hz
        omega
      · intro z hz
        simp at hz
        omega
      · refine kk p4 _ f0 (Ex.mut (e.trans (e3.trans e4)) f0) upd_same
theorem use__law_dice {K : PySem.W.Frag} {a : Addr} {ns : List Int} {n : Int} {H : Hp} {Q : VK} {E : XK} (ha : SqL K H a (ns.map V.int)) (hn : ns.length ≤ 63) (h0 : 0 ≤ n ∧ n < 2147483647) (k : ∀ p H', H p = none → Ex H H' → H' p = some (DiceO p) → Q (.ref p) H') : sp__law_dice K [.ref a, .int n] H Q E := ⟨a, ns, n, rfl, ha, hn, h0.1, h0.2, k⟩
local macro_rules | `(tactic| walk_at "st") => `(tactic| ((with_reducible refine use__law_dice (ns := ?ns) ?ha ?hn ?h0 ?hk); (case ha => assumption); (case hn => assumption); (case h0 => constructor <;> walk_at "sz"); intro p H2 hp e h2))
abbrev N__law_off : List Str := ["_law_d", "_law_upto", "_law_found"]
theorem sc__law_off : FnScope N__law_off ["_law_d", "_law_upto"] (defScope s__law_off) := ⟨rfl, rfl, rfl, by decide +kernel, rfl, by decide +kernel, by decide +kernel⟩
def sp__law_off (K : PySem.W.Frag) : Sp := fun vs H Q _ => ∃ (a : Addr) (n : Int), vs = [.ref a, .int n] ∧ H a = some (DiceO a) ∧ 0 < n ∧ n < 1073741824 ∧ ∀ r : Nat, (r : Int) < n → Q (.int r) H
theorem ok__law_off {P : Program} {w : World} {K : PySem.W.Frag} {mg : Str → Option Value} {base : Heap} (T : Txt K mg) : Has P w K mg base CX0 1 "_law_off" ["_law_d", "_law_upto"] (sp__law_off K) := by
  obtain ⟨f, fd, g, F⟩ := T.f__law_off
  refine ⟨f, fd, g, F.kp, F.bindsN (fun _ _ _ _ _ _ us hl => match us, hl with | [_, _], _ => rfl), F.ok sc__law_off (fun vs H Q E h => ?_) (fun cdv A outer s H vs Q E hr h => ?_)⟩
  · repeat (first | (obtain ⟨e, _⟩ := h; exact congrArg List.length e) | (obtain ⟨_, h⟩ := h))
  have hu64 : (A.deeper (envOfC "_law_off" (defScope s__law_off) s.heap.objs.size f cdv)).units + 64 < cLine := hr.units
  refine ⟨_, PSs.nox (pss_open (pss_close (pss_cons (ps_cut (ps_if (pt_cut (PW.pt (pw_and (pt_cmpR (op_eqK (K := K) rfl hu64) (pe_ix (ix_K (K := K) rfl) (pv 0) pe_int (fun _ _ => rfl)) pe_int (nomark _)) (pw_and1 (pt_cmpR op_gtU (pe_callB (call_lenK (K := K) rfl) (by rfl) T.z_len PySem.boot_len (pa_cons (pv 0) pa_nil)) pe_int (nomark _)))))) (pss_one (ps_asg (pe_bmK (K := K) rfl PySem.F.plainAttrs_list PySem.F.slot_list_pop PySem.F.type_list_pop mt_popAt (pv 0) (pa_cons pe_int pa_nil)) (pg_sub (pv 0) pe_int set_list))) pss_nil))
      (pss_cons (ps_if (pt_cmpR op_gtU (pe_ix (ix_K (K := K) rfl) (pv 0) pe_int (fun _ _ => rfl)) pe_int (nomark _)) (pss_cons (ps_set (i := 2) sc__law_off.nd rfl (Or.inl rfl) (pe_op op_modN (pe_ix (ix_K (K := K) rfl) (pv 0) pe_int (fun _ _ => rfl)) (pv 1)))
      (pss_cons (ps_asg (pe_op op_fdivN (pe_ix (ix_K (K := K) rfl) (pv 0) pe_int (fun _ _ => rfl)) (pv 1)) (pg_sub (pv 0) pe_int set_list))
      (pss_one (ps_ret (pv 2))))) pss_nil)
      (pss_cons (ps_asg (pe_op op_modN (pe_op op_addU (pe_op op_mul (pe_ix (ix_K (K := K) rfl) (pv 0) pe_int (fun _ _ => rfl)) pe_int) pe_int) pe_int) (pg_sub (pv 0) pe_int set_list))
      (pss_one (ps_ret (pe_op op_modN (pe_op op_fdivN (pe_ix (ix_K (K := K) rfl) (pv 0) pe_int (fun _ _ => rfl)) pe_int) (pv 1))))))))), ?_⟩
  obtain ⟨a, n, rfl, ha, h0, h1, k⟩ := h
  refine ⟨a, ha, fun xs ok => ?_⟩
  unfold tClose
  (generalize hst : L2.start _ _ = st0; simp only [L2.start, N__law_off, List.map_cons, List.map_nil, List.length_cons, List.length_nil, Nat.reduceAdd, Nat.reduceSub, List.replicate_succ, List.replicate_zero, List.cons_append, List.nil_append, List.append_nil] at hst; subst hst)
  obtain ⟨x0, x1, rest, rfl⟩ : ∃ x0 x1 rest, xs = x0 :: x1 :: rest := by
    have h2 := ok.two
    match xs, h2 with
    | x0 :: x1 :: rest, _ => exact ⟨x0, x1, rest, rfl⟩
  have p0 : 0 ≤ x0 := ok.pos _ (by simp)
  have p1 : 0 ≤ x1 := ok.pos _ (by simp)
  have s0 : x0 < 2147483647 := ok.seed _ rfl
  have pr : ∀ y ∈ rest, 0 ≤ y := fun y hy => ok.pos _ (by simp [hy])
  have ml : rest.length ≤ 998 := by have := ok.most; simp at this; omega
  have fin : ∀ (y0 y1 : Int) (ys : List Int) (r : Int), 0 ≤ r → r < n → 0 ≤ y0 → y0 < 2147483647 → 0 ≤ y1 → (∀ y ∈ ys, 0 ≤ y) → ys.length ≤ 998 →
      closeK Q (.int r) (upd H a (.lst ((y0 :: y1 :: ys).map V.int))) := fun y0 y1 ys r hr0 hr hy0 hy0' hy1 hys hl => by
    refine ⟨a, _, upd_same, ⟨by simp, by simp; omega, ?_, ?_⟩, ?_⟩
    · intro z hz
      rcases List.mem_cons.mp hz with rfl | hz
      · exact hy0
      · rcases List.mem_cons.mp hz with rfl | hz
        · exact hy1
        · exact hys z hz
    · intro z hz; simp at hz; omega
    · have e : upd (upd H a (.lst ((y0 :: y1 :: ys).map V.int))) a (DiceO a) = H := by
        rw [upd_upd]
        funext b
        unfold upd
        split
        · rename_i e; rw [e, ha]
        · rfl
      rw [e]
      have er : r = (r.toNat : Int) := by omega
      rw [er]
      exact k _ (by omega)
  have mod0 : ∀ y : Int, 0 ≤ y → 0 ≤ y.fmod n ∧ y.fmod n < n := fun y hy => by
    rw [Int.fmod_eq_emod_of_nonneg _ (by omega)]
    exact ⟨Int.emod_nonneg _ (by omega), Int.emod_lt_of_pos _ h0⟩
  have div0 : ∀ y : Int, 0 ≤ y → 0 ≤ y.fdiv n := fun y hy => by
    rw [Int.fdiv_eq_ediv_of_nonneg _ (by omega)]
    exact Int.ediv_nonneg hy (by omega)
  have cd : ∀ y, CDivN y n := fun y => ⟨by omega, by omega⟩
  have c64 : ∀ y : Int, CDivN y 64 := fun y => ⟨by omega, by decide⟩
  have seed : ∀ y : Int, 0 ≤ y → 0 ≤ (y * 48271 + 11).fmod 2147483647 ∧ (y * 48271 + 11).fmod 2147483647 < 2147483647 := fun y hy => by
    rw [Int.fmod_eq_emod_of_nonneg _ (by omega)]
    exact ⟨Int.emod_nonneg _ (by omega), Int.emod_lt_of_pos _ (by omega)⟩
  have half : ∀ y : Int, 0 ≤ y → 0 ≤ y.fdiv 64 := fun y hy => by
    rw [Int.fdiv_eq_ediv_of_nonneg _ (by omega)]
    exact Int.ediv_nonneg hy (by omega)
  walk_at "gx"
  refine w_cutS0 ?_
  walk_at "gx"
  refine w_cutT0 ?_
  walk_at "gx"
  walk_at "br"
  · walk_at "gx"
    walk_at "br"
    · rename_i _ hl
      obtain ⟨x2, rest, rfl⟩ : ∃ x2 r, rest = x2 :: r := by
        match rest, hl with
        | x2 :: r, _ => exact ⟨x2, r, rfl⟩
      have p2 : 0 ≤ x2 := pr _ (by simp)
      walk_at "gx"
      refine ⟨.inl ⟨rfl, _, SqL.of upd_same⟩, ?_⟩
      walk_at "gx"
      refine ⟨a, _, 2, 2, _, rfl, rfl, upd_same, by decide, by decide, ?_, rfl, ?_⟩
      · exact (ixN_seq (by unfold ixN; rw [if_pos (by decide), if_pos (by simp; omega)]; rfl)).1
      walk_at "gx"
      refine ⟨a, _, 1, 1, rfl, rfl, upd_same, ?_, ?_⟩
      · unfold ixN; rw [if_pos (by decide), if_pos (by simp [List.eraseIdx]; omega)]; rfl
      rw [upd_upd, upd_upd]
      simp only [List.map_cons, List.eraseIdx, List.set]
      walk_at "gx"
      walk_at "br"
      · walk_at "gx"
        refine ⟨a, _, 1, 1, rfl, rfl, upd_same, ?_, ?_⟩
        · unfold ixN; rw [if_pos (by decide), if_pos (by simp; omega)]; rfl
        rw [upd_upd]
        simp only [List.map_cons, List.set]
        walk_at "gx"
        exact fin x0 _ rest _ (mod0 _ p2).1 (mod0 _ p2).2 p0 s0 (div0 _ p2) (fun y hy => pr y (by simp [hy])) (by simp at ml; omega)
      · walk_at "gx"
        refine ⟨a, _, 0, 0, rfl, rfl, upd_same, ?_, ?_⟩
        · unfold ixN; rw [if_pos (by decide), if_pos (by simp; omega)]; rfl
        rw [upd_upd]
        simp only [List.map_cons, List.set]
        walk_at "gx"
        exact fin _ _ rest _ (mod0 _ (half _ (seed _ p0).1)).1 (mod0 _ (half _ (seed _ p0).1)).2 (seed _ p0).1 (seed _ p0).2 p2 (fun y hy => pr y (by simp [hy])) (by simp at ml; omega)
    · walk_at "gx"
      walk_at "br"
      · omega
      · walk_at "gx"
        refine ⟨a, _, 0, 0, rfl, rfl, upd_same, ?_, ?_⟩
        · unfold ixN; rw [if_pos (by decide), if_pos (by simp; omega)]; rfl
        rw [upd_upd]
        simp only [List.map_cons, List.set]
        walk_at "gx"
        exact fin _ _ rest _ (mod0 _ (half _ (seed _ p0).1)).1 (mod0 _ (half _ (seed _ p0).1)).2 (seed _ p0).1 (seed _ p0).2 p1 pr ml
  · walk_at "ff"
    walk_at "gx"
    walk_at "br"
    · walk_at "gx"
      refine ⟨a, _, 1, 1, rfl, rfl, upd_same, ?_, ?_⟩
      · unfold ixN; rw [if_pos (by decide), if_pos (by simp; omega)]; rfl
      rw [upd_upd]
      simp only [List.map_cons, List.set]
      walk_at "gx"
      exact fin x0 _ rest _ (mod0 _ p1).1 (mod0 _ p1).2 p0 s0 (div0 _ p1) pr ml
    · omega
theorem use__law_off {K : PySem.W.Frag} {a : Addr} {n : Int} {H : Hp} {Q : VK} {E : XK} (ha : H a = some (DiceO a)) (h0 : 0 < n ∧ n < 1073741824) (k : ∀ r : Nat, (r : Int) < n → Q (.int r) H) : sp__law_off K [.ref a, .int n] H Q E := ⟨a, n, rfl, ha, h0.1, h0.2, k⟩
local macro_rules | `(tactic| walk_at "st") => `(tactic| ((with_reducible refine use__law_off ?ha ?h0 ?hk); (case ha => walk_at "lift"); (case h0 => constructor <;> walk_at "sz"); intro r hr))
def pf__law_off : PF := fun ds R => ∃ n : Int, ds = [.dice, .int n] ∧ 0 < n ∧ n < 1073741824 ∧ ∀ r : Nat, (r : Int) < n → R false (.int r)
theorem pu__law_off {K : PySem.W.Frag} {E : XK} : PureOf (sp__law_off K) pf__law_off E := by
  rintro c L H vs ds Q R h hf ⟨n, rfl, h1, h2, hr⟩ k
  obtain ⟨v, ws, rfl, ⟨a, rfl, _, ha⟩, v2, ws2, rfl, e2, e3⟩ := hf
  cases e2; cases e3
  exact ⟨a, n, rfl, ha, h1, h2, fun r hn => k _ _ _ _ (hr r hn) (sub_int h (Ex.refl _) _)⟩
abbrev N__law_row : List Str := ["_law_d", "_law_signs_here", "_law_most", "_law_many", "_law_often", "_law_thick", "_law_row_here", "_law_k", "_law_sign"]
theorem sc__law_row : FnScope N__law_row ["_law_d", "_law_signs_here", "_law_most"] (defScope s__law_row) := ⟨rfl, rfl, rfl, by decide +kernel, rfl, by decide +kernel, by decide +kernel⟩
def sp__law_row (K : PySem.W.Frag) : Sp := fun vs H Q _ => ∃ (a : Addr) (v : V) (ss : List Nat) (m : Int), vs = [.ref a, v, .int m] ∧ H a = some (DiceO a) ∧ SignSeq H v ss ∧ ss ≠ [] ∧ ss.length ≤ 100 ∧ 0 < m ∧ m ≤ 1000 ∧
  ∀ row : List Nat, 1 ≤ row.length → (row.length : Int) ≤ m → (∀ c ∈ row, c ∈ ss) → Q (Tx row) H
theorem ok__law_row {P : Program} {w : World} {K : PySem.W.Frag} {mg : Str → Option Value} {base : Heap} (T : Txt K mg) : Has P w K mg base CX0 2 "_law_row" ["_law_d", "_law_signs_here", "_law_most"] (sp__law_row K) := by
  obtain ⟨f, fd, g, F⟩ := T.f__law_row
  obtain ⟨f__law_off, fd__law_off, g__law_off, kp__law_off, b__law_off, G__law_off⟩ := (ok__law_off (P := P) (w := w) (K := K) (mg := mg) (base := base) T).ex
  refine ⟨f, fd, g, F.kp, F.bindsN (fun _ _ _ _ _ _ us hl => match us, hl with | [_, _, _], _ => rfl), F.ok sc__law_row (fun vs H Q E h => ?_) (fun cdv A outer s H vs Q E hr h => ?_)⟩
  · repeat (first | (obtain ⟨e, _⟩ := h; exact congrArg List.length e) | (obtain ⟨_, h⟩ := h))
  have hu64 : (A.deeper (envOfC "_law_row" (defScope s__law_row) s.heap.objs.size f cdv)).units + 64 < cLine := hr.units
  refine ⟨_, PSs.nox ((pss_cons (ps_set (i := 3) sc__law_row.nd rfl (Or.inl rfl) (pe_op op_addU pe_int (pe_call G__law_off (hr.mono (by decide)) rfl g__law_off kp__law_off b__law_off .nil pass0 (pa_cons (pv 0) (pa_cons (pv 2) pa_nil)))))
      (pss_cons (ps_set (i := 4) sc__law_row.nd rfl (Or.inl rfl) (pe_ix (ix_K (K := K) rfl) (pv 1) (pe_call G__law_off (hr.mono (by decide)) rfl g__law_off kp__law_off b__law_off .nil pass0 (pa_cons (pv 0) (pa_cons (pe_callB (call_lenK (K := K) rfl) (by rfl) T.z_len PySem.boot_len (pa_cons (pv 1) pa_nil)) pa_nil))) (fun _ _ => rfl)))
      (pss_cons (ps_set (i := 5) sc__law_row.nd rfl (Or.inl rfl) (pe_call G__law_off (hr.mono (by decide)) rfl g__law_off kp__law_off b__law_off .nil pass0 (pa_cons (pv 0) (pa_cons pe_int pa_nil))))
      (pss_cons (ps_set (i := 6) sc__law_row.nd rfl (Or.inl rfl) (pe_strL (l := []) (by decide +kernel)))
      (pss_cons (ps_for PassesOwn.never rfl (pi_range1 (by rfl) T.z_range (pa_cons (pv 3) pa_nil)) (pg_name (i := 7) sc__law_row.nd rfl (Or.inl rfl)) (pss_cons (ps_set (i := 8) sc__law_row.nd rfl (Or.inl rfl) (pe_ix (ix_K (K := K) rfl) (pv 1) (pe_call G__law_off (hr.mono (by decide)) rfl g__law_off kp__law_off b__law_off .nil pass0 (pa_cons (pv 0) (pa_cons (pe_callB (call_lenK (K := K) rfl) (by rfl) T.z_len PySem.boot_len (pa_cons (pv 1) pa_nil)) pa_nil))) (fun _ _ => rfl)))
      (pss_one (ps_set (i := 6) sc__law_row.nd rfl (Or.inl rfl) (pe_op op_addU (pv 6) (pe_cut (pe_ifExp (pt_cut (PW.pt (pw_and (pt_cmpR (op_eqK (K := K) rfl hu64) (pv 5) pe_int (nomark _)) (pw_and1 (pt_cmpR (op_eqK (K := K) rfl hu64) (pe_op op_modN (pv 7) pe_int) pe_int (nomark _)))))) (pv 4) (pv 8))))))))
      (pss_one (ps_ret (pv 6))))))))), ?_⟩
  obtain ⟨a, v, ss, m, rfl, ha, hv, hne, hl, m0, m1, k⟩ := h
  (generalize hst : L2.start _ _ = st0; simp only [L2.start, N__law_row, List.map_cons, List.map_nil, List.length_cons, List.length_nil, Nat.reduceAdd, Nat.reduceSub, List.replicate_succ, List.replicate_zero, List.cons_append, List.nil_append, List.append_nil] at hst; subst hst)
  have hss : 0 < ss.length := List.length_pos_iff.mpr hne
  walk_at "go"
  rename_i many hmany
  refine w_lenQ hv (by walk_at "sz") ?_
  walk_at "go"
  rename_i r1 hr1
  refine w_ixQ hv (by walk_at "sz") (by omega) hr1 fun often hoften => ?_
  walk_at "go"
  rename_i thick hthick
  have hof : often ∈ ss := List.mem_of_getElem? hoften
  refine forX_range0 (fun i σ H' => ∃ (row : List Nat) (x1 x2 : Option V), σ = [some (.ref a), some v, some (.int m), some (.int (1 + (many : Int))), some (Tx [often]), some (.int (thick : Int)), some (Tx row), x1, x2] ∧ H' = H ∧ row.length = i ∧ ∀ c ∈ row, c ∈ ss)
    ⟨[], none, none, rfl, rfl, rfl, by simp⟩ ?_ ?_
  · rintro i σ H' hi ⟨row, x1, x2, rfl, rfl, hrow, hin⟩
    walk_at "go"
    refine w_lenQ hv (by walk_at "sz") ?_
    walk_at "go"
    rename_i r2 hr2
    refine w_ixQ hv (by walk_at "sz") (by omega) hr2 fun sign hsign => ?_
    have hsg : sign ∈ ss := List.mem_of_getElem? hsign
    walk_at "go"
    refine w_cutE (fun v H'' => H'' = H' ∧ ∃ c ∈ ss, v = Tx [c]) ?_ ?_
    · walk_at "go"
      refine w_cutT (fun b H'' => H'' = H') ?_ ?_
      · walk_at "go"
        walk_at "br"
        · walk_at "go"
          rfl
        · rfl
      · rintro b H'' rfl
        walk_at "br"
        · walk_at "go"
          exact ⟨rfl, _, hof, rfl⟩
        · walk_at "go"
          exact ⟨rfl, _, hsg, rfl⟩
    · rintro v H'' ⟨rfl, c, hc, rfl⟩
      walk_at "go"
      refine ⟨row ++ [c], _, _, rfl, rfl, by simp [hrow], ?_⟩
      intro d hd
      rcases List.mem_append.mp hd with hd | hd
      · exact hin d hd
      · simp at hd; subst hd; exact hc
  · rintro σ H' ⟨row, x1, x2, rfl, rfl, hrow, hin⟩
    walk_at "go"
    exact k row (by omega) (by omega) hin
theorem use__law_row {K : PySem.W.Frag} {a : Addr} {v : V} {ss : List Nat} {m : Int} {H : Hp} {Q : VK} {E : XK} (ha : H a = some (DiceO a)) (hv : SignSeq H v ss) (hne : ss ≠ []) (hl : ss.length ≤ 100) (hm : 0 < m ∧ m ≤ 1000)
  (k : ∀ row : List Nat, 1 ≤ row.length → (row.length : Int) ≤ m → (∀ c ∈ row, c ∈ ss) → Q (Tx row) H) : sp__law_row K [.ref a, v, .int m] H Q E := ⟨a, v, ss, m, rfl, ha, hv, hne, hl, hm.1, hm.2, k⟩
theorem use__law_rowT {K : PySem.W.Frag} {a : Addr} {ss : List Nat} {m : Int} {H : Hp} {Q : VK} {E : XK} (ha : H a = some (DiceO a)) (hne : ss ≠ []) (hl : ss.length ≤ 100) (hm : 0 < m ∧ m ≤ 1000)
  (k : ∀ row : List Nat, 1 ≤ row.length → (row.length : Int) ≤ m → (∀ c ∈ row, c ∈ ss) → Q (Tx row) H) : sp__law_row K [.ref a, Tx ss, .int m] H Q E := use__law_row ha (.inl rfl) hne hl hm k
local macro_rules | `(tactic| walk_at "st") => `(tactic| ((with_reducible refine use__law_rowT ?ha ?hne ?hl ?hm ?hk); (case ha => walk_at "lift"); (case hne => first | assumption | decide); (case hl => walk_at "sz"); (case hm => constructor <;> walk_at "sz"); intro row hrow1 hrow2 hrow3))
def pf__law_row : PF := fun ds R => ∃ (d : Dt) (ss : List Nat) (m : Int), ds = [.dice, d, .int m] ∧ (d = .str ss ∨ d = .lst (ss.map fun ch => .str [ch])) ∧ ss ≠ [] ∧ ss.length ≤ 100 ∧ 0 < m ∧ m ≤ 1000 ∧
  ∀ row : List Nat, 1 ≤ row.length → (row.length : Int) ≤ m → (∀ c ∈ row, c ∈ ss) → R false (.str row)
theorem pu__law_row {K : PySem.W.Frag} {E : XK} : PureOf (sp__law_row K) pf__law_row E := by
  rintro c L H vs ds Q R h hf ⟨d, ss, m, rfl, hd, h1, h2, h3, h4, hr⟩ k
  obtain ⟨v, ws, rfl, ⟨a, rfl, _, ha⟩, v2, ws2, rfl, e2, v3, ws3, rfl, e3, e4⟩ := hf
  cases e3; cases e4
  refine ⟨a, v2, ss, m, rfl, ha, ?_, h1, h2, h3, h4, fun row r1 r2 r3 => k _ _ _ _ (hr row r1 r2 r3) (sub_str h (Ex.refl _) _)⟩
  rcases hd with rfl | rfl
  · exact .inl e2
  · obtain ⟨p, xs, rfl, _, g1, g2⟩ := e2
    have := FrAll.strs_inv (l := ss.map fun ch => [ch]) (by rw [List.map_map]; exact g2)
    rw [List.map_map] at this
    exact .inr ⟨p, rfl, by rw [g1, this]; rfl⟩
abbrev N__law_mixed : List Str := ["_law_d", "_law_row_here", "_law_left", "_law_found"]
theorem sc__law_mixed : FnScope N__law_mixed ["_law_d", "_law_row_here"] (defScope s__law_mixed) := ⟨rfl, rfl, rfl, by decide +kernel, rfl, by decide +kernel, by decide +kernel⟩
def sp__law_mixed (K : PySem.W.Frag) : Sp := fun vs H Q _ => ∃ (a p : Addr) (xs : List V), vs = [.ref a, .ref p] ∧ H a = some (DiceO a) ∧ H p = some (.lst xs) ∧ xs.length ≤ 1000 ∧ (∀ x ∈ xs, ∃ d, okD 60 d ∧ Rp H x d) ∧
  ∀ q ys H', ys.Perm xs → H q = none → Ex H H' → H' q = some (.lst ys) → Q (.ref q) H'
theorem ok__law_mixed {P : Program} {w : World} {K : PySem.W.Frag} {mg : Str → Option Value} {base : Heap} (T : Txt K mg) : Has P w K mg base CX0 2 "_law_mixed" ["_law_d", "_law_row_here"] (sp__law_mixed K) := by
  obtain ⟨f, fd, g, F⟩ := T.f__law_mixed
  obtain ⟨f__law_off, fd__law_off, g__law_off, kp__law_off, b__law_off, G__law_off⟩ := (ok__law_off (P := P) (w := w) (K := K) (mg := mg) (base := base) T).ex
  refine ⟨f, fd, g, F.kp, F.bindsN (fun _ _ _ _ _ _ us hl => match us, hl with | [_, _], _ => rfl), F.ok sc__law_mixed (fun vs H Q E h => ?_) (fun cdv A outer s H vs Q E hr h => ?_)⟩
  · repeat (first | (obtain ⟨e, _⟩ := h; exact congrArg List.length e) | (obtain ⟨_, h⟩ := h))
  have hu64 : (A.deeper (envOfC "_law_mixed" (defScope s__law_mixed) s.heap.objs.size f cdv)).units + 64 < cLine := hr.units
  refine ⟨_, PSs.nox ((pss_cons (ps_set (i := 2) sc__law_mixed.nd rfl (Or.inl rfl) (pe_callTy (call_listK (K := K) rfl rfl) (by rfl) T.z_list (by decide +kernel) (pa_cons (pv 1) pa_nil)))
      (pss_cons (ps_set (i := 3) sc__law_mixed.nd rfl (Or.inl rfl) (pe_lstX pa_nil))
      (pss_cons (ps_while PassesOwn.never (pt_cut (pt_cmpR (op_neK (K := K) rfl hu64) (pv 2) (pe_lstX pa_nil) (nomark _))) (pss_one (ps_expr (pe_bmK (K := K) rfl PySem.F.plainAttrs_list PySem.F.slot_list_append PySem.F.type_list_append mt_append (pv 3) (pa_cons (pe_bmK (K := K) rfl PySem.F.plainAttrs_list PySem.F.slot_list_pop PySem.F.type_list_pop mt_popAt (pv 2) (pa_cons (pe_call G__law_off (hr.mono (by decide)) rfl g__law_off kp__law_off b__law_off .nil pass0 (pa_cons (pv 0) (pa_cons (pe_callB (call_lenK (K := K) rfl) (by rfl) T.z_len PySem.boot_len (pa_cons (pv 2) pa_nil)) pa_nil))) pa_nil)) pa_nil)))))
      (pss_one (ps_ret (pv 3))))))), ?_⟩
  obtain ⟨a, p, xs, rfl, ha, hp, hl, hx, k⟩ := h
  (generalize hst : L2.start _ _ = st0; simp only [L2.start, N__law_mixed, List.map_cons, List.map_nil, List.length_cons, List.length_nil, Nat.reduceAdd, Nat.reduceSub, List.replicate_succ, List.replicate_zero, List.cons_append, List.nil_append, List.append_nil] at hst; subst hst)
  walk_at "go"
  rename_i p1 H1 hp1 e1 h1 p2 H2 hp2 e2 h2
  have n12 : p1 ≠ p2 := by rintro rfl; rw [h1] at hp2; cases hp2
  have fr : H p2 = none := by
    cases h : H p2 with
    | none => rfl
    | some o => rw [e1 _ _ h] at hp2; cases hp2
  refine w_while (fun m σ H' => ∃ ls fs, σ = [some (.ref a), some (.ref p), some (.ref p1), some (.ref p2)] ∧ Ex H H' ∧ H' p1 = some (.lst ls) ∧ H' p2 = some (.lst fs) ∧ (fs ++ ls).Perm xs ∧ m = ls.length) xs.length
    ⟨xs, [], rfl, e1.trans e2, e2 _ _ h1, h2, by simp, rfl⟩ ?_
  rintro m σ H' ⟨ls, fs, rfl, e, hL, hF, pm, rfl⟩
  have hmem : ∀ x ∈ ls, ∃ d, okD 60 d ∧ Rp H' x d := fun x hx' => by
    obtain ⟨d, h1, h2⟩ := hx x (pm.mem_iff.mp (by simp [hx']))
    exact ⟨d, h1, h2.ex e⟩
  obtain ⟨ds, rds, okds⟩ := rpall_of hmem
  have hlen : ls.length + fs.length ≤ 1000 := by
    have := pm.length_eq
    simp at this; omega
  have na1 : a ≠ p1 := ne_of_none ha hp1
  have na2 : a ≠ p2 := ne_of_none ha fr
  walk_at "go"
  rename_i p3 H3 hp3 e3 h3
  have L3 : H3 p1 = some (.lst ls) := e3 _ _ hL
  refine w_neD (.lst L3 (rds.ex e3)) (.lst h3 .nil) (okD_list okds).shaped rfl ?_
  rw [eqv_nil]
  walk_at "go"
  have hem : ds.isEmpty = ls.isEmpty := by
    have := rds.length
    cases ds <;> cases ls <;> simp_all
  rw [hem]
  cases ls with
  | nil =>
    walk_at "ff"
    walk_at "go"
    refine k _ fs _ (by simpa using pm) fr (e.trans e3) (e3 _ _ hF)
  | cons y ls =>
    walk_at "tt"
    walk_at "go"
    rename_i r hr H4 v hv e4 h4 H5 e5 h5
    have hr' : r < (y :: ls).length := by omega
    refine ⟨_, ?_, (y :: ls).eraseIdx r, fs ++ [v], rfl, Ex.but (Ex.but (Ex.trans e e3) e4 hp1) e5 fr, e5 _ _ n12 h4, h5, ?_, rfl⟩
    · rw [List.length_eraseIdx, if_pos hr']; simp
    · refine List.Perm.trans ?_ pm
      rw [List.append_assoc]
      refine List.Perm.append_left fs ?_
      exact erase_perm _ _ _ hv
theorem use__law_mixed {K : PySem.W.Frag} {a p : Addr} {xs : List V} {H : Hp} {Q : VK} {E : XK} (ha : H a = some (DiceO a)) (hp : H p = some (.lst xs)) (hl : xs.length ≤ 1000) (hx : ∀ x ∈ xs, ∃ d, okD 60 d ∧ Rp H x d)
  (k : ∀ q ys H', ys.Perm xs → H q = none → Ex H H' → H' q = some (.lst ys) → Q (.ref q) H') : sp__law_mixed K [.ref a, .ref p] H Q E := ⟨a, p, xs, rfl, ha, hp, hl, hx, k⟩
local macro_rules | `(tactic| walk_at "st") => `(tactic| ((with_reducible refine use__law_mixed (xs := ?xs) ?ha ?hp ?hl ?hx ?hk); (case ha => walk_at "lift"); (case hp => walk_at "lift"); (case hl => walk_at "sz"); (case hx => first | assumption | exact signs_ok (by first | assumption | decide)); intro q ys H2 pm hq e h2))
abbrev N__law_signs : List Str := ["_law_d"]
theorem sc__law_signs : FnScope N__law_signs ["_law_d"] (defScope s__law_signs) := ⟨rfl, rfl, rfl, by decide +kernel, rfl, by decide +kernel, by decide +kernel⟩
def sp__law_signs (K : PySem.W.Frag) : Sp := fun vs H Q _ => ∃ a : Addr, vs = [.ref a] ∧ H a = some (DiceO a) ∧
  ∀ (ss : List Nat) H', Ex H H' → ss ≠ [] → ss.length ≤ 8 → ss.Nodup → (∀ c ∈ ss, c ∈ abcS) → Q (Tx ss) H'
theorem ok__law_signs {P : Program} {w : World} {K : PySem.W.Frag} {mg : Str → Option Value} {base : Heap} (T : Txt K mg) : Has P w K mg base CX0 3 "_law_signs" ["_law_d"] (sp__law_signs K) := by
  obtain ⟨f, fd, g, F⟩ := T.f__law_signs
  obtain ⟨f__law_mixed, fd__law_mixed, g__law_mixed, kp__law_mixed, b__law_mixed, G__law_mixed⟩ := (ok__law_mixed (P := P) (w := w) (K := K) (mg := mg) (base := base) T).ex
  obtain ⟨f__law_off, fd__law_off, g__law_off, kp__law_off, b__law_off, G__law_off⟩ := (ok__law_off (P := P) (w := w) (K := K) (mg := mg) (base := base) T).ex
  refine ⟨f, fd, g, F.kp, F.bindsN (fun _ _ _ _ _ _ us hl => match us, hl with | [_], _ => rfl), F.ok sc__law_signs (fun vs H Q E h => ?_) (fun cdv A outer s H vs Q E hr h => ?_)⟩
  · repeat (first | (obtain ⟨e, _⟩ := h; exact congrArg List.length e) | (obtain ⟨_, h⟩ := h))
  have hu64 : (A.deeper (envOfC "_law_signs" (defScope s__law_signs) s.heap.objs.size f cdv)).units + 64 < cLine := hr.units
  refine ⟨_, PSs.nox ((pss_one (ps_ret (pe_bmK (K := K) rfl PySem.F.plainAttrs_str PySem.F.slot_str_join PySem.F.type_str_join (mt_joinK (K := K) rfl) (pe_strL (l := []) (by decide +kernel)) (pa_cons (pe_slice sl_U (pe_call G__law_mixed (hr.mono (by decide)) rfl g__law_mixed kp__law_mixed b__law_mixed .nil pass0 (pa_cons (pv 0) (pa_cons (pe_callTy (call_listK (K := K) rfl rfl) (by rfl) T.z_list (by decide +kernel) (pa_cons (pe_strL (l := [97, 98, 99, 100, 101, 102, 103, 104]) (by decide +kernel)) pa_nil)) pa_nil))) po_none (po_some (pe_op op_addU pe_int (pe_call G__law_off (hr.mono (by decide)) rfl g__law_off kp__law_off b__law_off .nil pass0 (pa_cons (pv 0) (pa_cons pe_int pa_nil)))))) pa_nil))))), ?_⟩
  obtain ⟨a, rfl, ha, k⟩ := h
  (generalize hst : L2.start _ _ = st0; simp only [L2.start, N__law_signs, List.map_cons, List.map_nil, List.length_cons, List.length_nil, Nat.reduceAdd, Nat.reduceSub, List.replicate_succ, List.replicate_zero, List.cons_append, List.nil_append, List.append_nil] at hst; subst hst)
  walk_at "go"
  rename_i p H1 hp e1 h1 q ys H2 pm hq e2 h2 r hr p3 H3 hp3 e3 h3
  obtain ⟨m, hm, rfl⟩ := perm_map pm
  have hml : m.length = 8 := hm.length_eq
  have e : cutL (m.map fun c => Tx [c]) none (some (1 + (r : Int))) = (m.take (r + 1)).map fun c => Tx [c] := by
    rw [cutL_to _ (by omega), ← List.map_take]
    have : (1 + (r : Int)).toNat = r + 1 := by omega
    rw [this]
  have hlen : (m.take (r + 1)).length ≤ 8 := by simp; omega
  rw [e] at h3
  refine w_join1 h3 (by omega) ?_
  · walk_at "go"
    refine k _ _ ((e1.trans e2).trans e3) ?_ ?_ ?_ ?_
    · intro q
      have := congrArg List.length q
      rw [List.length_take, hml] at this
      simp only [List.length_nil] at this
      omega
    · simp; omega
    · exact (hm.nodup_iff.mpr (by decide)).sublist (List.take_sublist _ _)
    · intro c hc
      exact hm.mem_iff.mp (List.mem_of_mem_take hc)
theorem use__law_signs {K : PySem.W.Frag} {a : Addr} {H : Hp} {Q : VK} {E : XK} (ha : H a = some (DiceO a)) (k : ∀ (ss : List Nat) H', Ex H H' → ss ≠ [] → ss.length ≤ 8 → ss.Nodup → (∀ c ∈ ss, c ∈ abcS) → Q (Tx ss) H') : sp__law_signs K [.ref a] H Q E := ⟨a, rfl, ha, k⟩
local macro_rules | `(tactic| walk_at "st") => `(tactic| ((with_reducible refine use__law_signs ?ha ?hk); (case ha => walk_at "lift"); intro ss H2 e2 hss1 hss2 hss3 hss4))
def pf__law_signs : PF := fun ds R => ds = [.dice] ∧ ∀ ss : List Nat, ss ≠ [] → ss.length ≤ 8 → ss.Nodup → (∀ c ∈ ss, c ∈ abcS) → R false (.str ss)
theorem pu__law_signs {K : PySem.W.Frag} {E : XK} : PureOf (sp__law_signs K) pf__law_signs E := by
  rintro c L H vs ds Q R h hf ⟨rfl, hr⟩ k
  obtain ⟨v, ws, rfl, ⟨a, rfl, _, ha⟩, e3⟩ := hf
  cases e3
  exact ⟨a, rfl, ha, fun ss H' e s1 s2 s3 s4 => k _ _ _ _ (hr ss s1 s2 s3 s4) (sub_str h e _)⟩
abbrev N__law_prices : List Str := ["_law_d", "_law_most", "_law_sign"]
theorem sc__law_prices : FnScope N__law_prices ["_law_d"] (defScope s__law_prices) := ⟨rfl, rfl, rfl, by decide +kernel, rfl, by decide +kernel, by decide +kernel⟩
def pf__law_prices : PF := fun ds R => ds = [.dice] ∧ ∀ ps : List Nat, PriceOk ps → R false (.tpk (ps.map fun p : Nat => .int (p : Int)))
theorem len__law_prices : ∀ ds R, pf__law_prices ds R → ds.length = 1 := by
  intro ds R h
  (repeat (first | (obtain ⟨e, _⟩ := h; exact congrArg List.length e) | (obtain ⟨_, h⟩ := h)))
theorem ok__law_prices {P : Program} {w : World} {K : PySem.W.Frag} {mg : Str → Option Value} {base : Heap} (T : Txt K mg) : Has P w K mg base CX0 2 "_law_prices" ["_law_d"] (spZ pf__law_prices) := by
  obtain ⟨f, fd, g, F⟩ := T.f__law_prices
  obtain ⟨f__law_off, fd__law_off, g__law_off, kp__law_off, b__law_off, G__law_off⟩ := (ok__law_off (P := P) (w := w) (K := K) (mg := mg) (base := base) T).ex
  refine ⟨f, fd, g, F.kp, F.bindsN (fun _ _ _ _ _ _ us hl => match us, hl with | [_], _ => rfl), F.ok sc__law_prices (fun vs H Q E h => spZ_len (len__law_prices) (K := K) vs H Q E h) (fun cdv A outer s H vs Q E hr h => ?_)⟩
  have hu64 : (A.deeper (envOfC "_law_prices" (defScope s__law_prices) s.heap.objs.size f cdv)).units + 64 < cLine := hr.units
  have hu : (A.deeper (envOfC "_law_prices" (defScope s__law_prices) s.heap.objs.size f cdv)).units + 1 < cLine := by omega
  obtain ⟨A0, Zd0, ds, R, hf, hi, hp0, k⟩ := h
  refine ⟨_, PSs.nox ((pss_cons (ps_set (i := 1) sc__law_prices.nd rfl (Or.inr rfl) (pe_ix (ix_K (K := K) rfl) (pe_lstX (pa_cons pe_int (pa_cons pe_int (pa_cons pe_int (pa_cons pe_int pa_nil))))) (pe_call G__law_off (hr.mono (by decide)) rfl g__law_off kp__law_off b__law_off .nil pass0 (pa_cons (pv 0) (pa_cons pe_int pa_nil))) (fun _ _ => rfl)))
      (pss_one (ps_ret (pe_callTy (call_tupZ (K := K) rfl rfl) (by rfl) T.z_tuple (by decide +kernel) (pa_cons (pe_lc (own := [("_law_sign", 2)]) rfl sc__law_prices.nd (pi_anyK (K := K) rfl (pe_strL (l := [97, 98, 99, 100, 101, 102, 103, 104]) (by decide +kernel))) (blkOk_by (own := [("_law_sign", 2)]) (N := N__law_prices) (sc := defScope s__law_prices) (by decide +kernel)) (fun _ _ _ _ _ => (pg_name (i := 2) sc__law_prices.nd rfl (Or.inl rfl))) (fun _ _ _ _ _ => (pts_cut pts_nil)) (fun _ _ _ _ _ => (pe_cut (pe_op op_addZ pe_int (pe_call G__law_off (hr.mono (by decide)) rfl g__law_off kp__law_off b__law_off .nil pass0 (pa_cons (pv 0) (pa_cons (pv 1) pa_nil))))))) pa_nil)))))), ?_⟩
  refine z_run (n := 2) hf hi ?_ k (cs_seq (cs_set (i := 1) (ce_op (co_e (ce_lst (ca_cons ce_int (ca_cons ce_int (ca_cons ce_int (ca_cons ce_int ca_nil)))))) (co_e (ce_call (ca_cons (ce_var 0) (ca_cons ce_int ca_nil)) pu__law_off)) z_ix))
      (cs_ret (ce_cb1 (co_e (ce_lc (vs := [2]) (ks := [0, 1]) (ci_any ce_str) (cg_name (by decide)) (ct_cut0 ct_yes) (ce_cut0 (ce_op (co_e ce_int) (co_e (ce_call (ca_cons (ce_var 0) (ca_cons (ce_var 1) ca_nil)) pu__law_off)) z_add)))) z_tup))) ?_
  · rw [len__law_prices ds R hp0]; rfl
  clear hf hi k
  clear hr hu64 hu G__law_off b__law_off kp__law_off g__law_off
  obtain ⟨rfl, k⟩ := hp0
  walk_at "z"
  refine ⟨4, rfl, by decide, by decide, fun m hm => ?_⟩
  refine zIx_l (k := m) (by simp; omega) (.inl rfl) fun d hd => ?_
  obtain ⟨b, hb1, hb2, rfl⟩ : ∃ b : Nat, 1 ≤ b ∧ b ≤ 99 ∧ d = .int (b : Int) := by
    have h3 : m = 0 ∨ m = 1 ∨ m = 2 ∨ m = 3 := by omega
    rcases h3 with rfl | rfl | rfl | rfl <;> simp at hd <;> subst hd
    · exact ⟨1, by decide, by decide, rfl⟩
    · exact ⟨2, by decide, by decide, rfl⟩
    · exact ⟨9, by decide, by decide, rfl⟩
    · exact ⟨99, by decide, by decide, rfl⟩
  walk_at "z"
  walk_at "lc"
  refine lc_any [97, 98, 99, 100, 101, 102, 103, 104] (fun c => .str [c]) (fun i acc => ∃ ps : List Nat, acc = ps.map (fun p : Nat => .int (p : Int)) ∧ ps.length = i ∧ ∀ p ∈ ps, 1 ≤ p ∧ p ≤ 99) rfl (by decide) ⟨[], rfl, rfl, fun x hx => (by cases hx)⟩ ?_ ?_
  · rintro i x acc hx ⟨ps, rfl, rl, rx⟩
    walk_at "z"
    refine ⟨(b : Int), rfl, by omega, by omega, fun n hn => ?_⟩
    walk_at "z"
    refine ⟨ps ++ [1 + n], by rw [List.map_append]; rfl, by rw [List.length_append, rl]; rfl, fun y hy => ?_⟩
    rcases List.mem_append.mp hy with hy | hy
    · exact rx y hy
    · rw [List.mem_singleton.mp hy]
      omega
  · rintro acc ⟨ps, rfl, rl, rx⟩ -
    walk_at "z"
    exact k ps ⟨rl, rx⟩
theorem pu__law_prices {E : XK} : PureOf (spZ pf__law_prices) pf__law_prices E := pure_spZ
abbrev N__law_turns : List Str := ["_law_row_here", "_law_held", "_law_found", "_law_here", "_law_there"]
theorem sc__law_turns : FnScope N__law_turns ["_law_row_here", "_law_held"] (defScope s__law_turns) := ⟨rfl, rfl, rfl, by decide +kernel, rfl, by decide +kernel, by decide +kernel⟩
def pf__law_turns : PF := fun ds R => ∃ (row held : List Nat), ds = [.str row, .str held] ∧ row.length ≤ 200 ∧ R false (.lst ((turnsM row held).map dPr))
theorem len__law_turns : ∀ ds R, pf__law_turns ds R → ds.length = 2 := by
  intro ds R h
  (repeat (first | (obtain ⟨e, _⟩ := h; exact congrArg List.length e) | (obtain ⟨_, h⟩ := h)))
theorem ok__law_turns {P : Program} {w : World} {K : PySem.W.Frag} {mg : Str → Option Value} {base : Heap} (T : Txt K mg) : Has P w K mg base CX0 1 "_law_turns" ["_law_row_here", "_law_held"] (spZ pf__law_turns) := by
  obtain ⟨f, fd, g, F⟩ := T.f__law_turns
  refine ⟨f, fd, g, F.kp, F.bindsN (fun _ _ _ _ _ _ us hl => match us, hl with | [_, _], _ => rfl), F.ok sc__law_turns (fun vs H Q E h => spZ_len (len__law_turns) (K := K) vs H Q E h) (fun cdv A outer s H vs Q E hr h => ?_)⟩
  have hu64 : (A.deeper (envOfC "_law_turns" (defScope s__law_turns) s.heap.objs.size f cdv)).units + 64 < cLine := hr.units
  have hu : (A.deeper (envOfC "_law_turns" (defScope s__law_turns) s.heap.objs.size f cdv)).units + 1 < cLine := by omega
  obtain ⟨A0, Zd0, ds, R, hf, hi, hp0, k⟩ := h
  refine ⟨_, PSs.nox ((pss_cons (ps_set (i := 2) sc__law_turns.nd rfl (Or.inl rfl) (pe_lstX pa_nil))
      (pss_cons (ps_for PassesOwn.never rfl (pi_range1 (by rfl) T.z_range (pa_cons (pe_callB (call_lenK (K := K) rfl) (by rfl) T.z_len PySem.boot_len (pa_cons (pv 0) pa_nil)) pa_nil)) (pg_name (i := 3) sc__law_turns.nd rfl (Or.inl rfl)) (pss_one (ps_for PassesOwn.never rfl (pi_range2 (by rfl) T.z_range (pa_cons (pe_op op_addZ (pv 3) pe_int) (pa_cons (pe_callB (call_lenK (K := K) rfl) (by rfl) T.z_len PySem.boot_len (pa_cons (pv 0) pa_nil)) pa_nil))) (pg_name (i := 4) sc__law_turns.nd rfl (Or.inl rfl)) (pss_one (ps_cut (ps_if (pt_cut (PW.pt (pw_and (pt_cmpR (op_eqK (K := K) rfl hu64) (pe_ix (ix_K (K := K) rfl) (pv 0) (pv 3) (fun _ _ => rfl)) (pe_ix (ix_K (K := K) rfl) (pv 0) (pv 4) (fun _ _ => rfl)) (nomark _)) (pw_and1 (pt_cmpR (op_notInK (K := K) rfl) (pe_ix (ix_K (K := K) rfl) (pv 0) (pv 3) (fun _ _ => rfl)) (pv 1) (by rfl)))))) (pss_one (ps_expr (pe_bmK (K := K) rfl PySem.F.plainAttrs_list PySem.F.slot_list_append PySem.F.type_list_append mt_append (pv 2) (pa_cons (pe_tupX (pa_cons (pv 3) (pa_cons (pv 4) pa_nil))) pa_nil)))) pss_nil))))))
      (pss_one (ps_ret (pv 2)))))), ?_⟩
  refine z_run (n := 3) hf hi ?_ k (cs_seq (cs_set (i := 2) (ce_lst ca_nil))
      (cs_seq (cs_for (vs := [3]) (ci_rng1 (ce_cb1 (co_s 0) z_len)) (cg_name (by decide)) (cs_for (vs := [4]) (ci_rng2 (ce_op (co_s 3) (co_e ce_int) z_add) (ce_cb1 (co_s 0) z_len)) (cg_name (by decide)) (cs_cut0 (cs_if (ct_cut0 (ct_and (ct_test (ce_op (co_e (ce_op (co_s 0) (co_s 3) z_ix)) (co_e (ce_op (co_s 0) (co_s 4) z_ix)) z_eq)) (ct_test (ce_op (co_e (ce_op (co_s 0) (co_s 3) z_ix)) (co_s 1) z_notIn)))) (cs_drop (ce_app (k := 2) (ce_tup (ca_cons (ce_var 3) (ca_cons (ce_var 4) ca_nil))))) cs_next))))
      (cs_ret (ce_var 2)))) ?_
  · rw [len__law_turns ds R hp0]; rfl
  clear hf hi k
  clear hr hu64 hu
  obtain ⟨row, held, rfl, hl, k⟩ := hp0
  walk_at "z"
  walk_at "for"
  refine for_r row.length (fun i s => ∃ x y, s = [.fz (.str row), .fz (.str held), .ow (.lst (((List.range i).flatMap (turnsAt row held)).map dPr)), x, y] ∧ ((List.range i).flatMap (turnsAt row held)).length ≤ i * 200) rfl ⟨_, _, rfl, Nat.le_refl _⟩ ?_ ?_
  · rintro i s hi ⟨x, y, rfl, hz⟩
    walk_at "z"
    walk_at "for"
    refine for_l (List.range (row.length - (i + 1))) (fun j : Nat => .int ((i : Int) + 1 + (j : Int))) (fun j s => ∃ y, s = [.fz (.str row), .fz (.str held), .ow (.lst (((List.range i).flatMap (turnsAt row held) ++ turnsIn row held i j).map dPr)), .fz (.int (i : Int)), y] ∧ ((List.range i).flatMap (turnsAt row held) ++ turnsIn row held i j).length ≤ i * 200 + j) ?_ ?_ ?_ ?_
    · congr 2
      omega
    · have e0 : turnsIn row held i 0 = [] := by unfold turnsIn; simp
      rw [e0, List.append_nil]
      exact ⟨_, rfl, hz⟩
    · rintro j j' s hj ⟨y, rfl, hz⟩
      have hj2 : j < row.length - (i + 1) := by simpa using (List.getElem?_eq_some_iff.mp hj).1
      rw [List.getElem?_range hj2] at hj
      cases hj
      have hj' : i + 1 + j < row.length := by omega
      rw [turnsIn_more]
      walk_at "z"
      refine zIx_s (k := i) (by omega) (by omega) (.inl rfl) fun a ha => ?_
      walk_at "z"
      refine zIx_s (k := i + 1 + j) (by omega) (by omega) (.inl (by omega)) fun b hb => ?_
      have ea : row.getD i 0 = a := by rw [List.getD_eq_getElem?_getD, ha]; rfl
      have eb : row.getD (i + 1 + j) 0 = b := by rw [List.getD_eq_getElem?_getD, hb]; rfl
      rw [ea, eb]
      walk_at "z"
      walk_at "br"
      · rename_i hab
        subst hab
        refine zIx_s (k := i) (by omega) (by omega) (.inl rfl) fun a2 ha2 => ?_
        rw [ha] at ha2
        cases ha2
        walk_at "z"
        walk_at "br"
        · rename_i hh
          rw [if_pos ⟨hh, trivial⟩, ← List.append_assoc]
          have hz2 : (((List.range i).flatMap (turnsAt row held) ++ turnsIn row held i j).map dPr).length < 16777216 := by rw [List.length_map]; omega
          walk_at "zz"
          refine ⟨.fz (.int ((i : Int) + 1 + (j : Int))), ?_, ?_⟩
          · rw [List.map_append (l₁ := (List.range i).flatMap (turnsAt row held) ++ turnsIn row held i j)]
            rfl
          · rw [List.length_append (as := (List.range i).flatMap (turnsAt row held) ++ turnsIn row held i j), List.length_singleton]
            omega
        · rename_i hh
          walk_at "z"
          rw [if_neg fun q => q.1 hh, List.append_nil]
          exact ⟨_, rfl, by omega⟩
      · rename_i hab
        walk_at "z"
        rw [if_neg fun q => hab q.2.symm, List.append_nil]
        exact ⟨_, rfl, by omega⟩
    · rintro s ⟨y, rfl, hz⟩
      walk_at "z"
      rw [turns_more]
      rw [List.length_range] at hz ⊢
      refine ⟨_, _, rfl, ?_⟩
      show ((List.range i).flatMap (turnsAt row held) ++ turnsIn row held i (row.length - (i + 1))).length ≤ _
      omega
  · rintro s ⟨x, y, rfl, hz⟩
    walk_at "z"
    exact k
theorem pu__law_turns {E : XK} : PureOf (spZ pf__law_turns) pf__law_turns E := pure_spZ
theorem rev_range {row : List Nat} {h t : Nat} (hh : h ≤ t) (ht : t < row.length) : (List.range (t + 1 - h)).map (fun k => row.getD (t - k) 0) = ((row.drop h).take (t + 1 - h)).reverse := by
  refine List.ext_getElem (by simp; omega) fun i h1 h2 => ?_
  simp at h1
  simp only [List.getElem_map, List.getElem_range, List.getElem_reverse, List.getElem_take, List.getElem_drop, List.length_take, List.length_drop]
  rw [List.getD_eq_getElem?_getD, List.getElem?_eq_getElem (by omega)]
  simp only [Option.getD_some]
  congr 1
  omega
abbrev N__law_turned : List Str := ["_law_row_here", "_law_here", "_law_there", "_law_k"]
theorem sc__law_turned : FnScope N__law_turned ["_law_row_here", "_law_here", "_law_there"] (defScope s__law_turned) := ⟨rfl, rfl, rfl, by decide +kernel, rfl, by decide +kernel, by decide +kernel⟩
def sp__law_turned (K : PySem.W.Frag) : Sp := fun vs H Q _ => ∃ (row : List Nat) (h t : Nat), vs = [Tx row, .int h, .int t] ∧ h ≤ t ∧ t < row.length ∧ row.length ≤ 1000 ∧
  ∀ H', Ex H H' → Q (Tx (turnM row h t)) H'
theorem ok__law_turned {P : Program} {w : World} {K : PySem.W.Frag} {mg : Str → Option Value} {base : Heap} (T : Txt K mg) : Has P w K mg base CX0 1 "_law_turned" ["_law_row_here", "_law_here", "_law_there"] (sp__law_turned K) := by
  obtain ⟨f, fd, g, F⟩ := T.f__law_turned
  refine ⟨f, fd, g, F.kp, F.bindsN (fun _ _ _ _ _ _ us hl => match us, hl with | [_, _, _], _ => rfl), F.ok sc__law_turned (fun vs H Q E h => ?_) (fun cdv A outer s H vs Q E hr h => ?_)⟩
  · repeat (first | (obtain ⟨e, _⟩ := h; exact congrArg List.length e) | (obtain ⟨_, h⟩ := h))
  have hu64 : (A.deeper (envOfC "_law_turned" (defScope s__law_turned) s.heap.objs.size f cdv)).units + 64 < cLine := hr.units
  refine ⟨_, PSs.nox ((pss_one (ps_ret (pe_op op_addU (pe_op op_addU (pe_slice sl_U (pv 0) po_none (po_some (pv 1))) (pe_bmK (K := K) rfl PySem.F.plainAttrs_str PySem.F.slot_str_join PySem.F.type_str_join (mt_joinK (K := K) rfl) (pe_strL (l := []) (by decide +kernel)) (pa_cons (pe_lc (own := [("_law_k", 3)]) rfl sc__law_turned.nd (pi_range2 (by rfl) T.z_range (pa_cons (pv 1) (pa_cons (pe_op op_addU (pv 2) pe_int) pa_nil))) (blkOk_by (own := [("_law_k", 3)]) (N := N__law_turned) (sc := defScope s__law_turned) (by decide +kernel)) (fun _ _ _ _ _ => (pg_name (i := 3) sc__law_turned.nd rfl (Or.inl rfl))) (fun _ _ _ _ _ => (pts_cut pts_nil)) (fun _ _ _ _ _ => (pe_cut (pe_ix (ix_K (K := K) rfl) (pv 0) (pe_op op_sub (pe_op op_addU (pv 2) (pv 1)) (pv 3)) (fun _ _ => rfl))))) pa_nil))) (pe_slice sl_U (pv 0) (po_some (pe_op op_addU (pv 2) pe_int)) po_none))))), ?_⟩
  obtain ⟨row, h, t, rfl, hh, ht, hl, k⟩ := h
  (generalize hst : L2.start _ _ = st0; simp only [L2.start, N__law_turned, List.map_cons, List.map_nil, List.length_cons, List.length_nil, Nat.reduceAdd, Nat.reduceSub, List.replicate_succ, List.replicate_zero, List.cons_append, List.nil_append, List.append_nil] at hst; subst hst)
  walk_at "go"
  refine lcX_1 walk_range (by omega) (fun i => (List.range i).map fun k => .str (S [row.getD (t - k) 0])) rfl (fun _ _ => trivial) (fun v => rfl) ?_ ?_
  · rintro i x H1 H2 hi e ⟨rfl, rfl⟩
    unfold LcStep
    walk_at "go"
    simp only [if_true]
    walk_at "go"
    refine ⟨Ex.refl _, _, rfl, .str _, ?_⟩
    rename_i c hc
    have ec : row.getD (t - i) 0 = c := by
      rw [List.getD_eq_getElem?_getD]
      have : ((t : Int) + h - (h + i)).toNat = t - i := by omega
      rw [← this, hc]; rfl
    rw [range_more, List.map_append]
    simp only [List.map_cons, List.map_nil, ec]
  · rintro p H2 acc hp e h2 r hacc
    have hA := rpall_signs r
    subst hA
    have en : ((t : Int) + 1 - h).toNat = t + 1 - h := by omega
    rw [en, rev_range hh ht] at h2
    have l1 := cutL_length row none (some (h : Int))
    have l2 := cutL_length row (some ((t : Int) + 1)) none
    walk_at "go"
    have eq : cutL row none (some (h : Int)) ++ ((row.drop h).take (t + 1 - h)).reverse ++ cutL row (some ((t : Int) + 1)) none = turnM row h t := by
      rw [cutL_to _ (by omega), cutL_from _ (by omega)]
      unfold turnM
      have : ((t : Int) + 1).toNat = t + 1 := by omega
      rw [this]; rfl
    rw [eq]
    exact k _ e
theorem use__law_turned {K : PySem.W.Frag} {row : List Nat} {h t : Nat} {H : Hp} {Q : VK} {E : XK} (hh : h ≤ t) (ht : t < row.length) (hl : row.length ≤ 1000) (k : ∀ H', Ex H H' → Q (Tx (turnM row h t)) H') : sp__law_turned K [Tx row, .int h, .int t] H Q E := ⟨row, h, t, rfl, hh, ht, hl, k⟩
local macro_rules | `(tactic| walk_at "st") => `(tactic| ((with_reducible refine use__law_turned ?hh ?ht ?hl ?hk); (case hh => walk_at "sz"); (case ht => walk_at "sz"); (case hl => walk_at "sz"); intro H2 e2))
def pf__law_turned : PF := fun ds R => ∃ (row : List Nat) (h t : Nat), ds = [.str row, .int h, .int t] ∧ h ≤ t ∧ t < row.length ∧ row.length ≤ 1000 ∧ R false (.str (turnM row h t))
theorem pu__law_turned {K : PySem.W.Frag} {E : XK} : PureOf (sp__law_turned K) pf__law_turned E := by
  rintro c L H vs ds Q R hh hf ⟨row, h, t, rfl, h1, h2, h3, hr⟩ k
  obtain ⟨v, ws, rfl, e1, v2, ws2, rfl, e2, v3, ws3, rfl, e3, e4⟩ := hf
  cases e1; cases e2; cases e3; cases e4
  exact ⟨row, h, t, rfl, h1, h2, h3, fun H' e => k _ _ _ _ hr (sub_str hh e _)⟩
abbrev N__law_cost : List Str := ["_law_some", "_law_row_here", "_law_prices_here", "_law_total", "_law_here", "_law_there"]
theorem sc__law_cost : FnScope N__law_cost ["_law_some", "_law_row_here", "_law_prices_here"] (defScope s__law_cost) := ⟨rfl, rfl, rfl, by decide +kernel, rfl, by decide +kernel, by decide +kernel⟩
def pf__law_cost : PF := fun ds R => ∃ (row ps : List Nat) (ts : List (Nat × Nat)) (d : Dt), ds = [.lst (ts.map dPr), .str row, d] ∧ RowOk row ∧ PrD ps d ∧ PriceOk ps ∧ goesM [] row ts ∧ ts.length ≤ 1000 ∧ R false (.tup [.int ((costM ps row ts : Nat) : Int), .str (runM row ts)])
theorem len__law_cost : ∀ ds R, pf__law_cost ds R → ds.length = 3 := by
  intro ds R h
  (repeat (first | (obtain ⟨e, _⟩ := h; exact congrArg List.length e) | (obtain ⟨_, h⟩ := h)))
theorem ok__law_cost {P : Program} {w : World} {K : PySem.W.Frag} {mg : Str → Option Value} {base : Heap} (T : Txt K mg) : Has P w K mg base CX0 2 "_law_cost" ["_law_some", "_law_row_here", "_law_prices_here"] (spZ pf__law_cost) := by
  obtain ⟨f, fd, g, F⟩ := T.f__law_cost
  obtain ⟨f__law_turned, fd__law_turned, g__law_turned, kp__law_turned, b__law_turned, G__law_turned⟩ := (ok__law_turned (P := P) (w := w) (K := K) (mg := mg) (base := base) T).ex
  refine ⟨f, fd, g, F.kp, F.bindsN (fun _ _ _ _ _ _ us hl => match us, hl with | [_, _, _], _ => rfl), F.ok sc__law_cost (fun vs H Q E h => spZ_len (len__law_cost) (K := K) vs H Q E h) (fun cdv A outer s H vs Q E hr h => ?_)⟩
  have hu64 : (A.deeper (envOfC "_law_cost" (defScope s__law_cost) s.heap.objs.size f cdv)).units + 64 < cLine := hr.units
  have hu : (A.deeper (envOfC "_law_cost" (defScope s__law_cost) s.heap.objs.size f cdv)).units + 1 < cLine := by omega
  obtain ⟨A0, Zd0, ds, R, hf, hi, hp0, k⟩ := h
  refine ⟨_, PSs.nox ((pss_cons (ps_set (i := 3) sc__law_cost.nd rfl (Or.inl rfl) pe_int)
      (pss_cons (ps_for PassesOwn.never rfl (pi_anyK (K := K) rfl (pv 0)) (pg_tupK (K := K) (n := 2) rfl (by rfl) (pgs_cons (pg_name (i := 4) sc__law_cost.nd rfl (Or.inl rfl)) (pgs_cons (pg_name (i := 5) sc__law_cost.nd rfl (Or.inl rfl)) pgs_nil))) (pss_cons (ps_set (i := 3) sc__law_cost.nd rfl (Or.inl rfl) (pe_op op_addZ (pv 3) (pe_ix (ix_K (K := K) rfl) (pv 2) (pe_bmK (K := K) rfl PySem.F.plainAttrs_str PySem.F.slot_str_index PySem.F.type_str_index mt_idxS (pe_strL (l := [97, 98, 99, 100, 101, 102, 103, 104]) (by decide +kernel)) (pa_cons (pe_ix (ix_K (K := K) rfl) (pv 1) (pv 4) (fun _ _ => rfl)) pa_nil)) (fun _ _ => rfl))))
      (pss_one (ps_set (i := 1) sc__law_cost.nd rfl (Or.inl rfl) (pe_call G__law_turned (hr.mono (by decide)) rfl g__law_turned kp__law_turned b__law_turned .nil pass0 (pa_cons (pv 1) (pa_cons (pv 4) (pa_cons (pv 5) pa_nil))))))))
      (pss_one (ps_ret (pe_tupX (pa_cons (pv 3) (pa_cons (pv 1) pa_nil)))))))), ?_⟩
  refine z_run (n := 3) hf hi ?_ k (cs_seq (cs_set (i := 3) ce_int)
      (cs_seq (cs_for (vs := [4, 5]) (ci_any (ce_var 0)) (cg_tup (cgs_cons (cg_name (by decide)) (cgs_cons (cg_name (by decide)) cgs_nil))) (cs_seq (cs_set (i := 3) (ce_op (co_s 3) (co_e (ce_op (co_s 2) (co_e (ce_str1 z_idxS ce_str (co_e (ce_op (co_s 1) (co_s 4) z_ix)))) z_ix)) z_add))
      (cs_set (i := 1) (ce_call (ca_cons (ce_var 1) (ca_cons (ce_var 4) (ca_cons (ce_var 5) ca_nil))) pu__law_turned))))
      (cs_ret (ce_tup (ca_cons (ce_var 3) (ca_cons (ce_var 1) ca_nil)))))) ?_
  · rw [len__law_cost ds R hp0]; rfl
  clear hf hi k
  clear hr hu64 hu G__law_turned b__law_turned kp__law_turned g__law_turned
  obtain ⟨row, ps, ts, d, rfl, hr, hd, hp, hg, hl, k⟩ := hp0
  walk_at "z"
  walk_at "for"
  refine for_l ts dPr (fun i s => ∃ x y, s = [.fz (.lst (ts.map dPr)), .fz (.str (runM row (ts.take i))), .fz d, .fz (.int ((costM ps row (ts.take i) : Nat) : Int)), x, y] ∧ RowOk (runM row (ts.take i))) rfl ⟨_, _, rfl, hr⟩ ?_ ?_
  · rintro i q s hq ⟨x, y, rfl, ok⟩
    have hw := goesM_more hg hq
    obtain ⟨w1, w2, w3, _⟩ := whyM_iff.mp hw
    have e1 : ts.take (i + 1) = ts.take i ++ [q] := by
      rw [List.take_add_one, hq]; rfl
    have hrm : runM row (ts.take (i + 1)) = turnM (runM row (ts.take i)) q.1 q.2 := runM_more hq
    have ok2 : RowOk (runM row (ts.take (i + 1))) := by
      rw [hrm]
      refine ⟨by rw [turnM_len (by omega) w2]; exact ok.1, by rw [turnM_len (by omega) w2]; exact ok.2.1, fun c hc => ok.2.2 c (turnM_mem (by omega) hc)⟩
    have hc2 : costM ps row (ts.take (i + 1)) = costM ps row (ts.take i) + priceM ps ((runM row (ts.take i)).getD q.1 0) := by rw [e1, costM_snoc]
    rw [hrm] at ok2 ⊢
    rw [hc2]
    generalize runM row (ts.take i) = r at ok ok2 w1 w2 w3 hw
    generalize costM ps row (ts.take i) = cst
    have okl := ok.2.1
    have hx : ∀ c ∈ abcS, abcS[c - 97]? = some c ∧ c - 97 < 8 ∧ ∀ m, m < c - 97 → abcS[m]? ≠ some c := by decide
    unfold dPr
    walk_at "z"
    rcases hd with rfl | rfl <;>
    · walk_at "z"
      refine zIx_s (k := q.1) (by omega) (by omega) (.inl rfl) fun c hc => ?_
      have ec : r.getD q.1 0 = c := by rw [List.getD_eq_getElem?_getD, hc]; rfl
      obtain ⟨x1, x2, x3⟩ := hx c (ok.2.2 c (List.mem_of_getElem? hc))
      rw [zIdxS_s]
      refine ⟨c - 97, x1, x3, ?_⟩
      refine zIx_t (k := c - 97) (by rw [List.length_map, hp.1]; exact x2) (.inl rfl) fun d hd => ?_
      rw [price_at hd]
      walk_at "z"
      refine ⟨r, _, _, rfl, by omega, w2, by omega, ?_⟩
      walk_at "z"
      rw [ec]
      exact ⟨_, _, by rw [Int.natCast_add], ok2⟩
  · rintro s ⟨x, y, rfl, ok⟩
    rw [List.take_length]
    walk_at "z"
    exact k
theorem pu__law_cost {E : XK} : PureOf (spZ pf__law_cost) pf__law_cost E := pure_spZ
abbrev N__law_stirred : List Str := ["_law_d", "_law_row_here", "_law_held", "_law_many", "_law_turn", "_law_some", "_law_here", "_law_there"]
theorem sc__law_stirred : FnScope N__law_stirred ["_law_d", "_law_row_here", "_law_held", "_law_many"] (defScope s__law_stirred) := ⟨rfl, rfl, rfl, by decide +kernel, rfl, by decide +kernel, by decide +kernel⟩
def pf__law_stirred : PF := fun ds R => ∃ (row held : List Nat) (m : Nat), ds = [.dice, .str row, .str held, .int m] ∧ m ≤ 100 ∧ row.length ≤ 200 ∧ ∀ row', Stir held row row' → R false (.str row')
theorem len__law_stirred : ∀ ds R, pf__law_stirred ds R → ds.length = 4 := by
  intro ds R h
  (repeat (first | (obtain ⟨e, _⟩ := h; exact congrArg List.length e) | (obtain ⟨_, h⟩ := h)))
theorem ok__law_stirred {P : Program} {w : World} {K : PySem.W.Frag} {mg : Str → Option Value} {base : Heap} (T : Txt K mg) : Has P w K mg base CX0 2 "_law_stirred" ["_law_d", "_law_row_here", "_law_held", "_law_many"] (spZ pf__law_stirred) := by
  obtain ⟨f, fd, g, F⟩ := T.f__law_stirred
  obtain ⟨f__law_off, fd__law_off, g__law_off, kp__law_off, b__law_off, G__law_off⟩ := (ok__law_off (P := P) (w := w) (K := K) (mg := mg) (base := base) T).ex
  obtain ⟨f__law_turned, fd__law_turned, g__law_turned, kp__law_turned, b__law_turned, G__law_turned⟩ := (ok__law_turned (P := P) (w := w) (K := K) (mg := mg) (base := base) T).ex
  obtain ⟨f__law_turns, fd__law_turns, g__law_turns, kp__law_turns, b__law_turns, G__law_turns⟩ := (ok__law_turns (P := P) (w := w) (K := K) (mg := mg) (base := base) T).ex
  refine ⟨f, fd, g, F.kp, F.bindsN (fun _ _ _ _ _ _ us hl => match us, hl with | [_, _, _, _], _ => rfl), F.ok sc__law_stirred (fun vs H Q E h => spZ_len (len__law_stirred) (K := K) vs H Q E h) (fun cdv A outer s H vs Q E hr h => ?_)⟩
  have hu64 : (A.deeper (envOfC "_law_stirred" (defScope s__law_stirred) s.heap.objs.size f cdv)).units + 64 < cLine := hr.units
  have hu : (A.deeper (envOfC "_law_stirred" (defScope s__law_stirred) s.heap.objs.size f cdv)).units + 1 < cLine := by omega
  obtain ⟨A0, Zd0, ds, R, hf, hi, hp0, k⟩ := h
  refine ⟨_, PSs.nox ((pss_cons (ps_for PassesOwn.never rfl (pi_range1 (by rfl) T.z_range (pa_cons (pv 3) pa_nil)) (pg_name (i := 4) sc__law_stirred.nd rfl (Or.inl rfl)) (pss_cons (ps_set (i := 5) sc__law_stirred.nd rfl (Or.inl rfl) (pe_call G__law_turns (hr.mono (by decide)) rfl g__law_turns kp__law_turns b__law_turns .nil pass0 (pa_cons (pv 1) (pa_cons (pv 2) pa_nil))))
      (pss_one (ps_cut (ps_if (pt_cmpR (op_neK (K := K) rfl hu64) (pv 5) (pe_lstX pa_nil) (nomark _)) (pss_cons (ps_asg (pe_ix (ix_K (K := K) rfl) (pv 5) (pe_call G__law_off (hr.mono (by decide)) rfl g__law_off kp__law_off b__law_off .nil pass0 (pa_cons (pv 0) (pa_cons (pe_callB (call_lenK (K := K) rfl) (by rfl) T.z_len PySem.boot_len (pa_cons (pv 5) pa_nil)) pa_nil))) (fun _ _ => rfl)) (pg_tupK (K := K) (n := 2) rfl (by rfl) (pgs_cons (pg_name (i := 6) sc__law_stirred.nd rfl (Or.inl rfl)) (pgs_cons (pg_name (i := 7) sc__law_stirred.nd rfl (Or.inl rfl)) pgs_nil))))
      (pss_one (ps_set (i := 1) sc__law_stirred.nd rfl (Or.inl rfl) (pe_call G__law_turned (hr.mono (by decide)) rfl g__law_turned kp__law_turned b__law_turned .nil pass0 (pa_cons (pv 1) (pa_cons (pv 6) (pa_cons (pv 7) pa_nil))))))) pss_nil)))))
      (pss_one (ps_ret (pv 1))))), ?_⟩
  refine z_run (n := 4) hf hi ?_ k (cs_seq (cs_for (vs := [4]) (ci_rng1 (ce_var 3)) (cg_name (by decide)) (cs_seq (cs_set (i := 5) (ce_call (ca_cons (ce_var 1) (ca_cons (ce_var 2) ca_nil)) pu__law_turns))
      (cs_cut0 (cs_if (ct_test (ce_op (co_s 5) (co_e (ce_lst ca_nil)) z_ne)) (cs_seq (cs_asg (vs := [6, 7]) (ce_op (co_s 5) (co_e (ce_call (ca_cons (ce_var 0) (ca_cons (ce_cb1 (co_s 5) z_len) ca_nil)) pu__law_off)) z_ix) (cg_tup (cgs_cons (cg_name (by decide)) (cgs_cons (cg_name (by decide)) cgs_nil))))
      (cs_set (i := 1) (ce_call (ca_cons (ce_var 1) (ca_cons (ce_var 6) (ca_cons (ce_var 7) ca_nil))) pu__law_turned))) cs_next))))
      (cs_ret (ce_var 1))) ?_
  · rw [len__law_stirred ds R hp0]; rfl
  clear hf hi k
  clear hr hu64 hu G__law_off b__law_off kp__law_off g__law_off G__law_turned b__law_turned kp__law_turned g__law_turned G__law_turns b__law_turns kp__law_turns g__law_turns
  obtain ⟨row, held, m, rfl, hm, hl, k⟩ := hp0
  walk_at "z"
  walk_at "for"
  refine for_r m (fun i s => ∃ r x y z w, s = [.fz .dice, .fz (.str r), .fz (.str held), .fz (.int m), x, y, z, w] ∧ Stir held row r) (by simp) ⟨_, _, _, _, _, rfl, .refl⟩ ?_ ?_
  · rintro i s hi ⟨r, x, y, z, w, rfl, hs⟩
    have hrl := hs.len
    walk_at "z"
    refine ⟨r, held, rfl, by omega, ?_⟩
    walk_at "z"
    refine ⟨cmpOks_prs _, ?_⟩
    cases ht : turnsM r held with
    | nil =>
      walk_at "z"
      exact ⟨_, _, _, _, _, rfl, hs⟩
    | cons q ts =>
      simp only [List.map_cons, List.isEmpty_cons, Bool.not_false, if_true]
      rw [← List.map_cons (f := dPr), ← ht]
      have hpos : 0 < (turnsM r held).length := by rw [ht]; simp
      have hcnt := turnsM_len r held
      have hcnt2 : (turnsM r held).length ≤ 40000 := Nat.le_trans hcnt (by
        have : r.length * r.length ≤ 200 * 200 := Nat.mul_le_mul (by omega) (by omega)
        omega)
      walk_at "zz"
      refine ⟨_, rfl, by simp; omega, by simp; omega, fun n hn => ?_⟩
      rw [List.length_map] at hn
      walk_at "z"
      refine zIx_l (k := n) (by simp; omega) (.inl rfl) fun d hd => ?_
      rw [List.getElem?_map] at hd
      cases hq : (turnsM r held)[n]? with
      | none => rw [hq] at hd; cases hd
      | some q2 =>
        rw [hq] at hd
        cases hd
        obtain ⟨h, t⟩ := q2
        have hmem := List.mem_of_getElem? hq
        obtain ⟨h1, h2, _, _⟩ := turnsM_mem hmem
        unfold dPr
        walk_at "zz"
        refine ⟨r, h, t, rfl, by omega, h2, by omega, ?_⟩
        walk_at "z"
        exact ⟨_, _, _, _, _, rfl, hs.step hmem⟩
  · rintro s ⟨r, x, y, z, w, rfl, hs⟩
    walk_at "z"
    exact k _ hs
theorem pu__law_stirred {E : XK} : PureOf (spZ pf__law_stirred) pf__law_stirred E := pure_spZ
abbrev N_need_row : List Str := ["row", "place", "sign"]
theorem sc_need_row : FnScope N_need_row ["row"] (defScope s_need_row) := ⟨rfl, rfl, rfl, by decide +kernel, rfl, by decide +kernel, by decide +kernel⟩
def sp_need_row (K : PySem.W.Frag) : Sp := fun vs H Q _ => ∃ row : List Nat, vs = [Tx row] ∧ 1 ≤ row.length ∧ row.length ≤ 40 ∧ (∀ c ∈ row, c ∈ abcS) ∧ ∀ H', Ex H H' → Q .non H'
theorem ok_need_row {P : Program} {w : World} {K : PySem.W.Frag} {mg : Str → Option Value} {base : Heap} (T : Txt K mg) : Has P w K mg base CX0 1 "need_row" ["row"] (sp_need_row K) := by
  obtain ⟨f, fd, g, F⟩ := T.f_need_row
  refine ⟨f, fd, g, F.kp, F.bindsN (fun _ _ _ _ _ _ us hl => match us, hl with | [_], _ => rfl), F.ok sc_need_row (fun vs H Q E h => ?_) (fun cdv A outer s H vs Q E hr h => ?_)⟩
  · repeat (first | (obtain ⟨e, _⟩ := h; exact congrArg List.length e) | (obtain ⟨_, h⟩ := h))
  have hu64 : (A.deeper (envOfC "need_row" (defScope s_need_row) s.heap.objs.size f cdv)).units + 64 < cLine := hr.units
  refine ⟨_, PSs.nox ((pss_cons (ps_if (pt_cut (PW.pt (pw_or (pt_not (pt_val (pe_callB call_isU (by rfl) T.z_isinstance (by decide +kernel) (pa_cons (pv 0) (pa_cons (pe_bltn (v := .ty "str") rfl T.z_str (by decide +kernel) rfl) pa_nil))))) (pw_or1 (pt_cmpR (op_eqK (K := K) rfl hu64) (pv 0) (pe_strL (l := []) (by decide +kernel)) (nomark _)))))) (pss_one ps_never) pss_nil)
      (pss_one (ps_for PassesOwn.never rfl (pi_enumX (by rfl) T.z_enumerate (pa_cons (pv 0) pa_nil)) (pg_tupK (K := K) (n := 2) rfl (by rfl) (pgs_cons (pg_name (i := 1) sc_need_row.nd rfl (Or.inl rfl)) (pgs_cons (pg_name (i := 2) sc_need_row.nd rfl (Or.inl rfl)) pgs_nil))) (pss_one (ps_if (pt_cut (PW.pt (pw_or (pt_cmpR (op_eqK (K := K) rfl hu64) (pv 1) (pe_gc rfl T.c_MOST_SIGNS) (nomark _)) (pw_or1 (pt_cmpR (op_notInK (K := K) rfl) (pv 2) (pe_gc rfl T.c_SIGNS) (by rfl)))))) (pss_one ps_never) pss_nil)))))), ?_⟩
  obtain ⟨row, rfl, h1, h2, h3, k⟩ := h
  (generalize hst : L2.start _ _ = st0; simp only [L2.start, N_need_row, List.map_cons, List.map_nil, List.length_cons, List.length_nil, Nat.reduceAdd, Nat.reduceSub, List.replicate_succ, List.replicate_zero, List.cons_append, List.nil_append, List.append_nil] at hst; subst hst)
  walk_at "go"
  refine w_cutB false ?_ ?_
  · walk_at "go"
    exact ⟨decide_eq_false (by intro q; simp [q] at h1), rfl⟩
  walk_at "ff"
  walk_at "go"
  refine forX_it walk_w (fun i σ H' => ∃ x y : Option V, σ = [some (Tx row), x, y] ∧ Ex H H') ⟨none, none, rfl, Ex.refl _⟩ (fun _ _ _ _ _ => trivial) ?_ ?_
  · rintro i v σ H1 H2 hi ⟨x, y, rfl, e⟩ ⟨T, xs, rfl, hT, e2, hT2, c, hc, rfl⟩
    have hm : c ∈ [97, 98, 99, 100, 101, 102, 103, 104] := h3 c (List.mem_of_getElem? hc)
    refine g2_ok (.inl hT2) ?_
    walk_at "go"
    refine w_cutB false ?_ ?_
    · walk_at "go"
      rw [decide_eq_false (by omega)]
      walk_at "go"
      rw [decide_eq_true hm]
      exact ⟨rfl, rfl⟩
    walk_at "go"
    exact ⟨_, _, rfl, e.trans e2⟩
  · rintro σ H1 ⟨x, y, rfl, e⟩
    walk_at "go"
    exact k _ e
theorem use_need_row {K : PySem.W.Frag} {row : List Nat} {H : Hp} {Q : VK} {E : XK} (h1 : 1 ≤ row.length) (h2 : row.length ≤ 40) (h3 : ∀ c ∈ row, c ∈ abcS) (k : ∀ H', Ex H H' → Q .non H') : sp_need_row K [Tx row] H Q E := ⟨row, rfl, h1, h2, h3, k⟩
local macro_rules | `(tactic| walk_at "st") => `(tactic| ((with_reducible refine use_need_row ?h1 ?h2 ?h3 ?hk); (case h1 => walk_at "sz"); (case h2 => walk_at "sz"); (case h3 => assumption); intro H2 e2))
def pf_need_row : PF := fun ds R => ∃ row : List Nat, ds = [.str row] ∧ 1 ≤ row.length ∧ row.length ≤ 40 ∧ (∀ c ∈ row, c ∈ abcS) ∧ R false .non
theorem pu_need_row {K : PySem.W.Frag} {E : XK} : PureOf (sp_need_row K) pf_need_row E := by
  rintro c L H vs ds Q R h hf ⟨row, rfl, h1, h2, h3, hr⟩ k
  obtain ⟨v, ws, rfl, e1, e2⟩ := hf
  cases e1; cases e2
  exact ⟨row, rfl, h1, h2, h3, fun H' e => k _ _ _ _ hr (sub_non h e)⟩
abbrev N_is_number : List Str := ["thing", "low", "high"]
theorem sc_is_number : FnScope N_is_number ["thing", "low", "high"] (defScope s_is_number) := ⟨rfl, rfl, rfl, by decide +kernel, rfl, by decide +kernel, by decide +kernel⟩
def sp_is_number (K : PySem.W.Frag) : Sp := fun vs H Q _ => ∃ (i lo hi : Int), vs = [.int i, .int lo, .int hi] ∧ Q (.bl (decide (lo ≤ i ∧ i ≤ hi))) H
theorem ok_is_number {P : Program} {w : World} {K : PySem.W.Frag} {mg : Str → Option Value} {base : Heap} (T : Txt K mg) : Has P w K mg base CX0 1 "is_number" ["thing", "low", "high"] (sp_is_number K) := by
  obtain ⟨f, fd, g, F⟩ := T.f_is_number
  refine ⟨f, fd, g, F.kp, F.bindsN (fun _ _ _ _ _ _ us hl => match us, hl with | [_, _, _], _ => rfl), F.ok sc_is_number (fun vs H Q E h => ?_) (fun cdv A outer s H vs Q E hr h => ?_)⟩
  · repeat (first | (obtain ⟨e, _⟩ := h; exact congrArg List.length e) | (obtain ⟨_, h⟩ := h))
  have hu64 : (A.deeper (envOfC "is_number" (defScope s_is_number) s.heap.objs.size f cdv)).units + 64 < cLine := hr.units
  refine ⟨_, PSs.nox ((pss_one (ps_ret (pe_cut (pe_and (pe_callB call_isU (by rfl) T.z_isinstance (by decide +kernel) (pa_cons (pv 0) (pa_cons (pe_bltn (v := .ty "int") rfl T.z_int (by decide +kernel) rfl) pa_nil))) (pe_and (pe_not (pe_callB call_isU (by rfl) T.z_isinstance (by decide +kernel) (pa_cons (pv 0) (pa_cons (pe_bltn (v := .ty "bool") rfl T.z_bool (by decide +kernel) rfl) pa_nil)))) (pe_one (pe_chain op_leU op_leU (pv 1) (pv 0) (pv 2))))))))), ?_⟩
  obtain ⟨i, lo, hi, rfl, k⟩ := h
  (generalize hst : L2.start _ _ = st0; simp only [L2.start, N_is_number, List.map_cons, List.map_nil, List.length_cons, List.length_nil, Nat.reduceAdd, Nat.reduceSub, List.replicate_succ, List.replicate_zero, List.cons_append, List.nil_append, List.append_nil] at hst; subst hst)
  walk_at "go"
  refine w_cutV (.bl (decide (lo ≤ i ∧ i ≤ hi))) ?_ k
  walk_at "go"
  by_cases c1 : lo ≤ i
  · rw [decide_eq_true c1]
    walk_at "go"
    exact ⟨by simp [c1], rfl⟩
  · rw [decide_eq_false c1]
    walk_at "go"
    exact ⟨by simp [c1], rfl⟩
theorem use_is_number {K : PySem.W.Frag} {i lo hi : Int} {H : Hp} {Q : VK} {E : XK} (k : Q (.bl (decide (lo ≤ i ∧ i ≤ hi))) H) : sp_is_number K [.int i, .int lo, .int hi] H Q E := ⟨i, lo, hi, rfl, k⟩
local macro_rules | `(tactic| walk_at "st") => `(tactic| (with_reducible refine use_is_number ?_))
def pf_is_number : PF := fun ds R => ∃ i lo hi : Int, ds = [.int i, .int lo, .int hi] ∧ R false (.bl (decide (lo ≤ i ∧ i ≤ hi)))
theorem pu_is_number {K : PySem.W.Frag} {E : XK} : PureOf (sp_is_number K) pf_is_number E := by
  rintro c L H vs ds Q R h hf ⟨i, lo, hi, rfl, hr⟩ k
  obtain ⟨v, ws, rfl, e1, v2, ws2, rfl, e2, v3, ws3, rfl, e3, e4⟩ := hf
  cases e1; cases e2; cases e3; cases e4
  exact ⟨i, lo, hi, rfl, k _ _ _ _ hr (sub_bl h (Ex.refl _) _)⟩
abbrev N_need_prices : List Str := ["prices", "price"]
theorem sc_need_prices : FnScope N_need_prices ["prices"] (defScope s_need_prices) := ⟨rfl, rfl, rfl, by decide +kernel, rfl, by decide +kernel, by decide +kernel⟩
def pf_need_prices : PF := fun ds R => ∃ (ps : List Nat) (d : Dt), ds = [d] ∧ PrD ps d ∧ PriceOk ps ∧ R false .non
theorem len_need_prices : ∀ ds R, pf_need_prices ds R → ds.length = 1 := by
  intro ds R h
  (repeat (first | (obtain ⟨e, _⟩ := h; exact congrArg List.length e) | (obtain ⟨_, h⟩ := h)))
theorem ok_need_prices {P : Program} {w : World} {K : PySem.W.Frag} {mg : Str → Option Value} {base : Heap} (T : Txt K mg) : Has P w K mg base CX0 2 "need_prices" ["prices"] (spZ pf_need_prices) := by
  obtain ⟨f, fd, g, F⟩ := T.f_need_prices
  obtain ⟨f_is_number, fd_is_number, g_is_number, kp_is_number, b_is_number, G_is_number⟩ := (ok_is_number (P := P) (w := w) (K := K) (mg := mg) (base := base) T).ex
  refine ⟨f, fd, g, F.kp, F.bindsN (fun _ _ _ _ _ _ us hl => match us, hl with | [_], _ => rfl), F.ok sc_need_prices (fun vs H Q E h => spZ_len (len_need_prices) (K := K) vs H Q E h) (fun cdv A outer s H vs Q E hr h => ?_)⟩
  have hu64 : (A.deeper (envOfC "need_prices" (defScope s_need_prices) s.heap.objs.size f cdv)).units + 64 < cLine := hr.units
  have hu : (A.deeper (envOfC "need_prices" (defScope s_need_prices) s.heap.objs.size f cdv)).units + 1 < cLine := by omega
  obtain ⟨A0, Zd0, ds, R, hf, hi, hp0, k⟩ := h
  refine ⟨_, PSs.nox ((pss_cons (ps_if (pt_cut (PW.pt (pw_or (pt_not (pt_val (pe_callB call_isU (by rfl) T.z_isinstance (by decide +kernel) (pa_cons (pv 0) (pa_cons (pe_bltn (v := .ty "tuple") rfl T.z_tuple (by decide +kernel) rfl) pa_nil))))) (pw_or1 (pt_cmpR (op_neK (K := K) rfl hu64) (pe_callB (call_lenK (K := K) rfl) (by rfl) T.z_len PySem.boot_len (pa_cons (pv 0) pa_nil)) (pe_callB (call_lenK (K := K) rfl) (by rfl) T.z_len PySem.boot_len (pa_cons (pe_gc rfl T.c_SIGNS) pa_nil)) (nomark _)))))) (pss_one ps_never) pss_nil)
      (pss_one (ps_if (pt_not (pt_val (pe_callB (call_allK (K := K) rfl rfl) (by rfl) T.z_all (by decide +kernel) (pa_cons (pe_lc (own := [("price", 1)]) rfl sc_need_prices.nd (pi_anyK (K := K) rfl (pv 0)) (blkOk_by (own := [("price", 1)]) (N := N_need_prices) (sc := defScope s_need_prices) (by decide +kernel)) (fun _ _ _ _ _ => (pg_name (i := 1) sc_need_prices.nd rfl (Or.inl rfl))) (fun _ _ _ _ _ => (pts_cut pts_nil)) (fun _ _ _ _ _ => (pe_cut (pe_call G_is_number (hr.mono (by decide)) rfl g_is_number kp_is_number b_is_number .nil pass0 (pa_cons (pv 1) (pa_cons pe_int (pa_cons (pe_gc rfl T.c_MOST_PRICE) pa_nil))))))) pa_nil)))) (pss_one ps_never) pss_nil)))), ?_⟩
  refine z_run (n := 1) hf hi ?_ k (cs_seq (cs_if (ct_cut0 (ct_or (ct_not (ct_B (ce_is (co_s 0) (by decide)))) (ct_test (ce_op (co_e (ce_cb1 (co_s 0) z_len)) (co_e (ce_cb1 (co_e ce_str) z_len)) z_ne)))) cs_never cs_next)
      (cs_if (ct_not (ct_B (ce_cb1 (co_e (ce_lc (vs := [1]) (ks := []) (ci_any (ce_var 0)) (cg_name (by decide)) (ct_cut0 ct_yes) (ce_cut0 (ce_call (ca_cons (ce_var 1) (ca_cons ce_int (ca_cons ce_int ca_nil))) pu_is_number)))) z_all))) cs_never cs_next)) ?_
  · rw [len_need_prices ds R hp0]; rfl
  clear hf hi k
  clear hr hu64 hu G_is_number b_is_number kp_is_number g_is_number
  obtain ⟨ps, d, rfl, hd, ⟨hl, hp⟩, k⟩ := hp0
  rcases hd with rfl | rfl <;>
  · walk_at "z"
    rw [List.length_map, hl, decide_eq_true (show ((8 : Nat) : Int) = (8 : Nat) from rfl)]
    walk_at "z"
    walk_at "lc"
    refine lc_map ps (fun p : Nat => .int (p : Int)) (fun _ => .bl true) rfl (by omega) ?_ ?_
    · intro i p acc G hi hG
      have := hp p (List.mem_of_getElem? hi)
      walk_at "z"
      refine ⟨_, _, _, rfl, ?_⟩
      rw [decide_eq_true (show (1 : Int) ≤ (p : Int) ∧ (p : Int) ≤ 99 by omega)]
      exact hG
    · rw [show ps.map (fun _ => Dt.bl true) = (ps.map fun _ => true).map .bl by rw [List.map_map]; rfl]
      refine zAll_l ?_
      rw [show (ps.map fun _ => true).all id = true by rw [List.all_map]; exact List.all_eq_true.mpr fun _ _ => rfl]
      walk_at "z"
      exact k
theorem pu_need_prices {E : XK} : PureOf (spZ pf_need_prices) pf_need_prices E := pure_spZ
abbrev N_free_places : List Str := ["row", "pins", "place", "sign"]
theorem sc_free_places : FnScope N_free_places ["row", "pins"] (defScope s_free_places) := ⟨rfl, rfl, rfl, by decide +kernel, rfl, by decide +kernel, by decide +kernel⟩
def pf_free_places : PF := fun ds R => ∃ (row held : List Nat), ds = [.str row, .str held] ∧ row.length ≤ 1000 ∧ R true (.lst ((freeM row held).map fun i : Nat => .int i))
theorem len_free_places : ∀ ds R, pf_free_places ds R → ds.length = 2 := by
  intro ds R h
  (repeat (first | (obtain ⟨e, _⟩ := h; exact congrArg List.length e) | (obtain ⟨_, h⟩ := h)))
theorem ok_free_places {P : Program} {w : World} {K : PySem.W.Frag} {mg : Str → Option Value} {base : Heap} (T : Txt K mg) : Has P w K mg base CX0 1 "free_places" ["row", "pins"] (spZ pf_free_places) := by
  obtain ⟨f, fd, g, F⟩ := T.f_free_places
  refine ⟨f, fd, g, F.kp, F.bindsN (fun _ _ _ _ _ _ us hl => match us, hl with | [_, _], _ => rfl), F.ok sc_free_places (fun vs H Q E h => spZ_len (len_free_places) (K := K) vs H Q E h) (fun cdv A outer s H vs Q E hr h => ?_)⟩
  have hu64 : (A.deeper (envOfC "free_places" (defScope s_free_places) s.heap.objs.size f cdv)).units + 64 < cLine := hr.units
  have hu : (A.deeper (envOfC "free_places" (defScope s_free_places) s.heap.objs.size f cdv)).units + 1 < cLine := by omega
  obtain ⟨A0, Zd0, ds, R, hf, hi, hp0, k⟩ := h
  refine ⟨_, PSs.nox ((pss_one (ps_ret (pe_lc (own := [("place", 2), ("sign", 3)]) rfl sc_free_places.nd (pi_enumX (by rfl) T.z_enumerate (pa_cons (pv 0) pa_nil)) (blkOk_by (own := [("place", 2), ("sign", 3)]) (N := N_free_places) (sc := defScope s_free_places) (by decide +kernel)) (fun _ _ _ _ _ => (pg_tupK (K := K) (n := 2) rfl (by rfl) (pgs_cons (pg_name (i := 2) sc_free_places.nd rfl (Or.inl rfl)) (pgs_cons (pg_name (i := 3) sc_free_places.nd rfl (Or.inl rfl)) pgs_nil)))) (fun _ _ _ _ _ => (pts_cut (pts_one (pt_cmpR (op_notInK (K := K) rfl) (pv 3) (pv 1) (by rfl))))) (fun _ _ _ _ _ => (pe_cut (pv 2))))))), ?_⟩
  refine z_run (n := 2) hf hi ?_ k (cs_ret (ce_lc (vs := [2, 3]) (ks := [1]) (ci_enumX (ce_var 0)) (cg_tup (cgs_cons (cg_name (by decide)) (cgs_cons (cg_name (by decide)) cgs_nil))) (ct_cut0 (ct_test (ce_op (co_s 3) (co_s 1) z_notIn))) (ce_cut0 (ce_var 2)))) ?_
  · rw [len_free_places ds R hp0]; rfl
  clear hf hi k
  clear hr hu64 hu
  obtain ⟨row, held, rfl, hl, k⟩ := hp0
  walk_at "z"
  walk_at "lc"
  refine lc_fm (List.range row.length) _ (fun i => decide (row.getD i 0 ∉ held)) (fun i : Nat => .int i) (enumD_signs row) (by simp; omega) ?_ k
  intro i x acc G hx hG
  walk_at "z"
  walk_at "br"
  · rename_i hc
    walk_at "z"
    rw [if_pos (decide_eq_true hc)] at hG
    exact hG
  · rename_i hc
    walk_at "z"
    rw [if_neg (by simpa using hc), List.append_nil] at hG
    exact hG
theorem pu_free_places {E : XK} : PureOf (spZ pf_free_places) pf_free_places E := pure_spZ
abbrev N_name_of : List Str := ["thread"]
theorem sc_name_of : FnScope N_name_of ["thread"] (defScope s_name_of) := ⟨rfl, rfl, rfl, by decide +kernel, rfl, by decide +kernel, by decide +kernel⟩
def pf_name_of : PF := fun ds R => ∃ l : List Nat, ds = [.str l] ∧ l.length ≤ 1000 ∧ R false (.str (nameM l))
theorem len_name_of : ∀ ds R, pf_name_of ds R → ds.length = 1 := by
  intro ds R h
  (repeat (first | (obtain ⟨e, _⟩ := h; exact congrArg List.length e) | (obtain ⟨_, h⟩ := h)))
theorem ok_name_of {P : Program} {w : World} {K : PySem.W.Frag} {mg : Str → Option Value} {base : Heap} (T : Txt K mg) : Has P w K mg base CX0 1 "name_of" ["thread"] (spZ pf_name_of) := by
  obtain ⟨f, fd, g, F⟩ := T.f_name_of
  refine ⟨f, fd, g, F.kp, F.bindsN (fun _ _ _ _ _ _ us hl => match us, hl with | [_], _ => rfl), F.ok sc_name_of (fun vs H Q E h => spZ_len (len_name_of) (K := K) vs H Q E h) (fun cdv A outer s H vs Q E hr h => ?_)⟩
  have hu64 : (A.deeper (envOfC "name_of" (defScope s_name_of) s.heap.objs.size f cdv)).units + 64 < cLine := hr.units
  have hu : (A.deeper (envOfC "name_of" (defScope s_name_of) s.heap.objs.size f cdv)).units + 1 < cLine := by omega
  obtain ⟨A0, Zd0, ds, R, hf, hi, hp0, k⟩ := h
  refine ⟨_, PSs.nox ((pss_one (ps_ret (pe_callB (call_minZ rfl) (by rfl) T.z_min (by decide +kernel) (pa_cons (pv 0) (pa_cons (pe_revX (pv 0)) pa_nil)))))), ?_⟩
  refine z_run (n := 0) hf hi ?_ k (cs_ret (ce_cb2 (co_s 0) (co_e (ce_rev (co_s 0))) z_min)) ?_
  · rw [len_name_of ds R hp0]; rfl
  clear hf hi k
  clear hr hu64 hu
  obtain ⟨l, rfl, hl, k⟩ := hp0
  walk_at "zz"
  exact k
theorem pu_name_of {E : XK} : PureOf (spZ pf_name_of) pf_name_of E := pure_spZ
abbrev N_threads_of : List Str := ["row", "pins", "spots", "found", "here", "there"]
theorem sc_threads_of : FnScope N_threads_of ["row", "pins"] (defScope s_threads_of) := ⟨rfl, rfl, rfl, by decide +kernel, rfl, by decide +kernel, by decide +kernel⟩
def pf_threads_of : PF := fun ds R => ∃ (row held : List Nat), ds = [.str row, .str held] ∧ row.length ≤ 1000 ∧ okT row ∧ R false (thrD row held)
theorem len_threads_of : ∀ ds R, pf_threads_of ds R → ds.length = 2 := by
  intro ds R h
  (repeat (first | (obtain ⟨e, _⟩ := h; exact congrArg List.length e) | (obtain ⟨_, h⟩ := h)))
theorem ok_threads_of {P : Program} {w : World} {K : PySem.W.Frag} {mg : Str → Option Value} {base : Heap} (T : Txt K mg) : Has P w K mg base CX0 2 "threads_of" ["row", "pins"] (spZ pf_threads_of) := by
  obtain ⟨f, fd, g, F⟩ := T.f_threads_of
  obtain ⟨f_free_places, fd_free_places, g_free_places, kp_free_places, b_free_places, G_free_places⟩ := (ok_free_places (P := P) (w := w) (K := K) (mg := mg) (base := base) T).ex
  obtain ⟨f_name_of, fd_name_of, g_name_of, kp_name_of, b_name_of, G_name_of⟩ := (ok_name_of (P := P) (w := w) (K := K) (mg := mg) (base := base) T).ex
  refine ⟨f, fd, g, F.kp, F.bindsN (fun _ _ _ _ _ _ us hl => match us, hl with | [_, _], _ => rfl), F.ok sc_threads_of (fun vs H Q E h => spZ_len (len_threads_of) (K := K) vs H Q E h) (fun cdv A outer s H vs Q E hr h => ?_)⟩
  have hu64 : (A.deeper (envOfC "threads_of" (defScope s_threads_of) s.heap.objs.size f cdv)).units + 64 < cLine := hr.units
  have hu : (A.deeper (envOfC "threads_of" (defScope s_threads_of) s.heap.objs.size f cdv)).units + 1 < cLine := by omega
  obtain ⟨A0, Zd0, ds, R, hf, hi, hp0, k⟩ := h
  refine ⟨_, PSs.nox ((pss_cons (ps_set (i := 2) sc_threads_of.nd rfl (Or.inl rfl) (pe_call G_free_places (hr.mono (by decide)) rfl g_free_places kp_free_places b_free_places .nil pass0 (pa_cons (pv 0) (pa_cons (pv 1) pa_nil))))
      (pss_cons (ps_if (pt_cmpR (op_eqK (K := K) rfl hu64) (pv 2) (pe_lstX pa_nil) (nomark _)) (pss_one (ps_ret (pe_tupX (pa_cons (pv 0) (pa_cons pe_tupK (pa_cons (pe_strL (l := []) (by decide +kernel)) pa_nil)))))) pss_nil)
      (pss_cons (ps_setLc (i := 3) (own := [("here", 4), ("there", 5)]) rfl sc_threads_of.nd rfl rfl (sw_true rfl rfl rfl (by decide +kernel)) (pi_zipK (K := K) rfl (by rfl) T.z_zip (pa_cons (pv 2) (pa_cons (pe_slice sl_Z (pv 2) (po_some pe_int) po_none) pa_nil))) (blkOk_by (own := [("here", 4), ("there", 5)]) (N := N_threads_of) (sc := defScope s_threads_of) (by decide +kernel)) (fun _ _ _ _ _ => (pg_tupK (K := K) (n := 2) rfl (by rfl) (pgs_cons (pg_name (i := 4) sc_threads_of.nd rfl (Or.inl rfl)) (pgs_cons (pg_name (i := 5) sc_threads_of.nd rfl (Or.inl rfl)) pgs_nil)))) (fun _ _ _ _ _ => (pts_cut pts_nil)) (fun _ _ _ _ _ => (pe_cut (pe_call G_name_of (hr.mono (by decide)) rfl g_name_of kp_name_of b_name_of .nil pass0 (pa_cons (pe_slice sl_Z (pv 0) (po_some (pv 4)) (po_some (pe_op op_addZ (pv 5) pe_int))) pa_nil)))))
      (pss_one (ps_ret (pe_tupX (pa_cons (pe_slice sl_Z (pv 0) po_none (po_some (pe_op op_addZ (pe_ix (ix_K (K := K) rfl) (pv 2) pe_int (fun _ _ => rfl)) pe_int))) (pa_cons (pe_callTy (call_tupZ (K := K) rfl rfl) (by rfl) T.z_tuple (by decide +kernel) (pa_cons (pe_callB (cr_sortA (K := K) rfl rfl hu64) (by rfl) T.z_sorted (by decide +kernel) (pa_cons (pv 3) pa_nil)) pa_nil)) (pa_cons (pe_slice sl_Z (pv 0) (po_some (pe_ix (ix_K (K := K) rfl) (pv 2) (pe_un un_neg pe_int) (fun _ _ => rfl))) po_none) pa_nil)))))))))), ?_⟩
  refine z_run (n := 4) hf hi ?_ k (cs_seq (cs_set (i := 2) (ce_call (ca_cons (ce_var 0) (ca_cons (ce_var 1) ca_nil)) pu_free_places))
      (cs_seq (cs_if (ct_test (ce_op (co_s 2) (co_e (ce_lst ca_nil)) z_eq)) (cs_ret (ce_tup (ca_cons (ce_var 0) (ca_cons ce_tupK (ca_cons ce_str ca_nil))))) cs_next)
      (cs_seq (cs_set (i := 3) (ce_lc (vs := [4, 5]) (ks := [0]) (ci_zipL (ce_var 2) (ce_sl (co_s 2) (cp_part ce_int) cp_no)) (cg_tup (cgs_cons (cg_name (by decide)) (cgs_cons (cg_name (by decide)) cgs_nil))) (ct_cut0 ct_yes) (ce_cut0 (ce_call (ca_cons (ce_sl (co_s 0) (cp_part (ce_var 4)) (cp_part (ce_op (co_s 5) (co_e ce_int) z_add))) ca_nil) pu_name_of))))
      (cs_ret (ce_tup (ca_cons (ce_sl (co_s 0) cp_no (cp_part (ce_op (co_e (ce_op (co_s 2) (co_e ce_int) z_ix)) (co_e ce_int) z_add))) (ca_cons (ce_cb1 (co_e (ce_cb1 (co_s 3) z_sortA)) z_tup) (ca_cons (ce_sl (co_s 0) (cp_part (ce_op (co_s 2) (co_e (ce_un (co_e ce_int) z_neg)) z_ix)) cp_no) ca_nil)))))))) ?_
  · rw [len_threads_of ds R hp0]; rfl
  clear hf hi k
  clear hr hu64 hu G_free_places b_free_places kp_free_places g_free_places G_name_of b_name_of kp_name_of g_name_of
  obtain ⟨row, held, rfl, hl, ht, k⟩ := hp0
  walk_at "z"
  refine ⟨row, held, rfl, hl, ?_⟩
  walk_at "z"
  refine ⟨cmpOks_nats _, ?_⟩
  have hlen : (freeM row held).length ≤ 1000 := by unfold freeM; exact Nat.le_trans (List.length_filter_le _ _) (by simpa using hl)
  cases hf : freeM row held with
  | nil =>
    walk_at "z"
    unfold thrD headM tailM midM at k
    rw [hf] at k
    simpa [cutsM, sortT] using k
  | cons s sp =>
    simp only [List.map_cons, List.isEmpty_cons, Bool.false_eq_true, if_false]
    rw [← List.map_cons (f := fun i : Nat => Dt.int i), ← hf]
    walk_at "z"
    walk_at "lc"
    have e1 : cutL ((freeM row held).map fun i : Nat => Dt.int i) (some 1) none = ((freeM row held).tail).map fun i : Nat => Dt.int i := by
      rw [cutL_map, cutL_from _ (by decide)]
      simp
    rw [e1, zipD_map]
    refine lc_map ((freeM row held).zip (freeM row held).tail) _ (fun q => .str (nameM (subM row q.1 q.2))) rfl (by simp; omega) ?_ ?_
    · intro i x acc G hx hG
      have hx1 : x.1 < row.length := (freeM_lt (List.of_mem_zip (List.mem_of_getElem? hx)).1).1
      walk_at "zz"
      refine ⟨subM row x.1 x.2, ?_, ?_, ?_⟩
      · rw [cutL_both _ (by omega) (by omega)]
        unfold subM
        simp
      · unfold subM; simp; omega
      · exact hG
    · walk_at "z"
      have hn : freeM row held ≠ [] := by rw [hf]; simp
      have hpos : 0 < (freeM row held).length := List.length_pos_iff.mpr hn
      refine zIx_l (k := 0) (by simpa using hpos) (.inl rfl) fun d hd => ?_
      rw [hf] at hd
      cases hd
      walk_at "zz"
      rw [show (((freeM row held).zip (freeM row held).tail).map fun q => Dt.str (nameM (subM row q.1 q.2))) = (cutsM row (freeM row held)).map .str by unfold cutsM; rw [List.map_map]; rfl]
      refine zs_strs (fun x hx c hc => ht c (cutsM_mem hx c hc)) ?_
      walk_at "zz"
      refine zIx_l (k := (freeM row held).length - 1) (by simp; omega) (.inr (by simp; omega)) fun d hd => ?_
      rw [List.getElem?_map, ← List.getLast?_eq_getElem?] at hd
      cases hg : (freeM row held).getLast? with
      | none => rw [hg] at hd; cases hd
      | some e =>
        rw [hg] at hd
        cases hd
        walk_at "zz"
        rw [cutL_to _ (by omega), cutL_from _ (by omega)]
        unfold thrD headM tailM midM at k
        rw [hf] at k
        rw [← hf, hg] at k
        rw [hf] at k ⊢
        simpa using k
theorem pu_threads_of {E : XK} : PureOf (spZ pf_threads_of) pf_threads_of E := pure_spZ
abbrev N_first_apart : List Str := ["one", "other", "thread"]
theorem sc_first_apart : FnScope N_first_apart ["one", "other"] (defScope s_first_apart) := ⟨rfl, rfl, rfl, by decide +kernel, rfl, by decide +kernel, by decide +kernel⟩
def pf_first_apart : PF := fun ds R => ∃ (a b : List (List Nat)), ds = [.tpk (a.map .str), .tpk (b.map .str)] ∧ a.length + b.length ≤ 2000 ∧ R false (fapD a b)
theorem len_first_apart : ∀ ds R, pf_first_apart ds R → ds.length = 2 := by
  intro ds R h
  (repeat (first | (obtain ⟨e, _⟩ := h; exact congrArg List.length e) | (obtain ⟨_, h⟩ := h)))
theorem ok_first_apart {P : Program} {w : World} {K : PySem.W.Frag} {mg : Str → Option Value} {base : Heap} (T : Txt K mg) : Has P w K mg base CX0 1 "first_apart" ["one", "other"] (spZ pf_first_apart) := by
  obtain ⟨f, fd, g, F⟩ := T.f_first_apart
  refine ⟨f, fd, g, F.kp, F.bindsN (fun _ _ _ _ _ _ us hl => match us, hl with | [_, _], _ => rfl), F.ok sc_first_apart (fun vs H Q E h => spZ_len (len_first_apart) (K := K) vs H Q E h) (fun cdv A outer s H vs Q E hr h => ?_)⟩
  have hu64 : (A.deeper (envOfC "first_apart" (defScope s_first_apart) s.heap.objs.size f cdv)).units + 64 < cLine := hr.units
  have hu : (A.deeper (envOfC "first_apart" (defScope s_first_apart) s.heap.objs.size f cdv)).units + 1 < cLine := by omega
  obtain ⟨A0, Zd0, ds, R, hf, hi, hp0, k⟩ := h
  refine ⟨_, PSs.nox ((pss_cons (ps_for PassesOwn.never rfl (pi_anyK (K := K) rfl (pe_sortset (K := K) rfl rfl hu64 (by rfl) T.z_sorted (by rfl) T.z_set (pe_op op_addZ (pv 0) (pv 1)))) (pg_name (i := 2) sc_first_apart.nd rfl (Or.inl rfl)) (pss_one (ps_if (pt_cmpR (op_neK (K := K) rfl hu64) (pe_tm PySem.F.slot_tuple_count PySem.F.type_tuple_count (mt_cntK (K := K) rfl) (pv 0) (pa_cons (pv 2) pa_nil)) (pe_tm PySem.F.slot_tuple_count PySem.F.type_tuple_count (mt_cntK (K := K) rfl) (pv 1) (pa_cons (pv 2) pa_nil)) (nomark _)) (pss_one (ps_ret (pe_tupX (pa_cons (pv 2) (pa_cons (pe_tm PySem.F.slot_tuple_count PySem.F.type_tuple_count (mt_cntK (K := K) rfl) (pv 0) (pa_cons (pv 2) pa_nil)) (pa_cons (pe_tm PySem.F.slot_tuple_count PySem.F.type_tuple_count (mt_cntK (K := K) rfl) (pv 1) (pa_cons (pv 2) pa_nil)) pa_nil)))))) pss_nil)))
      (pss_one (ps_ret pe_non)))), ?_⟩
  refine z_run (n := 1) hf hi ?_ k (cs_seq (cs_for (vs := [2]) (ci_any (ce_setS (co_e (ce_op (co_s 0) (co_s 1) z_add)))) (cg_name (by decide)) (cs_if (ct_test (ce_op (co_e (ce_cnt (co_s 0) (co_s 2))) (co_e (ce_cnt (co_s 1) (co_s 2))) z_ne)) (cs_ret (ce_tup (ca_cons (ce_var 2) (ca_cons (ce_cnt (co_s 0) (co_s 2)) (ca_cons (ce_cnt (co_s 1) (co_s 2)) ca_nil))))) cs_next))
      (cs_ret ce_non)) ?_
  · rw [len_first_apart ds R hp0]; rfl
  clear hf hi k
  clear hr hu64 hu
  obtain ⟨a, b, rfl, hl, k⟩ := hp0
  walk_at "z"
  walk_at "for"
  refine for_l (setT (a ++ b)) _ (fun i s => ∃ x, s = [.fz (.tpk (a.map .str)), .fz (.tpk (b.map .str)), x] ∧ ((setT (a ++ b)).take i).find? (fun t => decide (a.count t ≠ b.count t)) = none) rfl ⟨_, rfl, rfl⟩ ?_ ?_
  · rintro i t s ht ⟨x, rfl, hn⟩
    walk_at "z"
    walk_at "br"
    · rename_i hc
      walk_at "zz"
      have e : fapM a b = some t := find_step ht hn (decide_eq_true (by omega))
      unfold fapD at k
      rw [e] at k
      exact k
    · rename_i hc
      walk_at "z"
      exact ⟨_, rfl, find_more ht hn (decide_eq_false (by omega))⟩
  · rintro s ⟨x, rfl, hn⟩
    walk_at "z"
    rw [List.take_length] at hn
    unfold fapD at k
    rw [show fapM a b = none from hn] at k
    exact k
theorem pu_first_apart {E : XK} : PureOf (spZ pf_first_apart) pf_first_apart E := pure_spZ
abbrev N_apart : List Str := ["one", "other", "pins", "mine", "yours", "found"]
theorem sc_apart : FnScope N_apart ["one", "other", "pins"] (defScope s_apart) := ⟨rfl, rfl, rfl, by decide +kernel, rfl, by decide +kernel, by decide +kernel⟩
def pf_apart : PF := fun ds R => ∃ (a b ss : List Nat), ds = [.str a, .str b, .str ss] ∧ a.length ≤ 1000 ∧ b.length ≤ 1000 ∧ okT a ∧ okT b ∧ R false (apD a b ss)
theorem len_apart : ∀ ds R, pf_apart ds R → ds.length = 3 := by
  intro ds R h
  (repeat (first | (obtain ⟨e, _⟩ := h; exact congrArg List.length e) | (obtain ⟨_, h⟩ := h)))
theorem ok_apart {P : Program} {w : World} {K : PySem.W.Frag} {mg : Str → Option Value} {base : Heap} (T : Txt K mg) : Has P w K mg base CX0 3 "apart" ["one", "other", "pins"] (spZ pf_apart) := by
  obtain ⟨f, fd, g, F⟩ := T.f_apart
  obtain ⟨f_first_apart, fd_first_apart, g_first_apart, kp_first_apart, b_first_apart, G_first_apart⟩ := (ok_first_apart (P := P) (w := w) (K := K) (mg := mg) (base := base) T).ex
  obtain ⟨f_threads_of, fd_threads_of, g_threads_of, kp_threads_of, b_threads_of, G_threads_of⟩ := (ok_threads_of (P := P) (w := w) (K := K) (mg := mg) (base := base) T).ex
  refine ⟨f, fd, g, F.kp, F.bindsN (fun _ _ _ _ _ _ us hl => match us, hl with | [_, _, _], _ => rfl), F.ok sc_apart (fun vs H Q E h => spZ_len (len_apart) (K := K) vs H Q E h) (fun cdv A outer s H vs Q E hr h => ?_)⟩
  have hu64 : (A.deeper (envOfC "apart" (defScope s_apart) s.heap.objs.size f cdv)).units + 64 < cLine := hr.units
  have hu : (A.deeper (envOfC "apart" (defScope s_apart) s.heap.objs.size f cdv)).units + 1 < cLine := by omega
  obtain ⟨A0, Zd0, ds, R, hf, hi, hp0, k⟩ := h
  refine ⟨_, PSs.nox ((pss_cons (ps_par (i := 3) (j := 4) (by rfl) sc_apart.nd rfl rfl (by decide) rfl rfl (pa_cons (pe_call G_threads_of (hr.mono (by decide)) rfl g_threads_of kp_threads_of b_threads_of .nil pass0 (pa_cons (pv 0) (pa_cons (pv 2) pa_nil))) (pa_cons (pe_call G_threads_of (hr.mono (by decide)) rfl g_threads_of kp_threads_of b_threads_of .nil pass0 (pa_cons (pv 1) (pa_cons (pv 2) pa_nil))) pa_nil)) (by rfl))
      (pss_cons (ps_if (pt_cmpR (op_neK (K := K) rfl hu64) (pe_ix (ix_K (K := K) rfl) (pv 3) pe_int (fun _ _ => rfl)) (pe_ix (ix_K (K := K) rfl) (pv 4) pe_int (fun _ _ => rfl)) (nomark _)) (pss_one (ps_ret (pe_tupX (pa_cons (pe_strL (l := [104, 101, 97, 100]) (by decide +kernel)) (pa_cons (pe_ix (ix_K (K := K) rfl) (pv 3) pe_int (fun _ _ => rfl)) (pa_cons (pe_ix (ix_K (K := K) rfl) (pv 4) pe_int (fun _ _ => rfl)) pa_nil)))))) pss_nil)
      (pss_cons (ps_if (pt_cmpR (op_neK (K := K) rfl hu64) (pe_ix (ix_K (K := K) rfl) (pv 3) pe_int (fun _ _ => rfl)) (pe_ix (ix_K (K := K) rfl) (pv 4) pe_int (fun _ _ => rfl)) (nomark _)) (pss_one (ps_ret (pe_tupX (pa_cons (pe_strL (l := [116, 97, 105, 108]) (by decide +kernel)) (pa_cons (pe_ix (ix_K (K := K) rfl) (pv 3) pe_int (fun _ _ => rfl)) (pa_cons (pe_ix (ix_K (K := K) rfl) (pv 4) pe_int (fun _ _ => rfl)) pa_nil)))))) pss_nil)
      (pss_cons (ps_set (i := 5) sc_apart.nd rfl (Or.inl rfl) (pe_call G_first_apart (hr.mono (by decide)) rfl g_first_apart kp_first_apart b_first_apart .nil pass0 (pa_cons (pe_ix (ix_K (K := K) rfl) (pv 3) pe_int (fun _ _ => rfl)) (pa_cons (pe_ix (ix_K (K := K) rfl) (pv 4) pe_int (fun _ _ => rfl)) pa_nil))))
      (pss_one (ps_ret (pe_cut (pe_ifExp (pt_cmpR op_isN1 (pv 5) pe_non (nomark _)) pe_non (pe_op op_addZ (pe_tupX (pa_cons (pe_strL (l := [116, 104, 114, 101, 97, 100]) (by decide +kernel)) pa_nil)) (pv 5))))))))))), ?_⟩
  refine z_run (n := 3) hf hi ?_ k (cs_seq (cs_par (ce_call (ca_cons (ce_var 0) (ca_cons (ce_var 2) ca_nil)) pu_threads_of) (ce_call (ca_cons (ce_var 1) (ca_cons (ce_var 2) ca_nil)) pu_threads_of))
      (cs_seq (cs_if (ct_test (ce_op (co_e (ce_op (co_s 3) (co_e ce_int) z_ix)) (co_e (ce_op (co_s 4) (co_e ce_int) z_ix)) z_ne)) (cs_ret (ce_tup (ca_cons ce_str (ca_cons (ce_op (co_s 3) (co_e ce_int) z_ix) (ca_cons (ce_op (co_s 4) (co_e ce_int) z_ix) ca_nil))))) cs_next)
      (cs_seq (cs_if (ct_test (ce_op (co_e (ce_op (co_s 3) (co_e ce_int) z_ix)) (co_e (ce_op (co_s 4) (co_e ce_int) z_ix)) z_ne)) (cs_ret (ce_tup (ca_cons ce_str (ca_cons (ce_op (co_s 3) (co_e ce_int) z_ix) (ca_cons (ce_op (co_s 4) (co_e ce_int) z_ix) ca_nil))))) cs_next)
      (cs_seq (cs_set (i := 5) (ce_call (ca_cons (ce_op (co_s 3) (co_e ce_int) z_ix) (ca_cons (ce_op (co_s 4) (co_e ce_int) z_ix) ca_nil)) pu_first_apart))
      (cs_ret (ce_cut0 (ce_if (ct_test (ce_op (co_s 5) (co_e ce_non) z_isN)) ce_non (ce_op (co_e (ce_tup (ca_cons ce_str ca_nil))) (co_s 5) z_add)))))))) ?_
  · rw [len_apart ds R hp0]; rfl
  clear hf hi k
  clear hr hu64 hu G_first_apart b_first_apart kp_first_apart g_first_apart G_threads_of b_threads_of kp_threads_of g_threads_of
  obtain ⟨a, b, ss, rfl, h1, h2, h3, h4, k⟩ := hp0
  walk_at "z"
  refine ⟨a, ss, rfl, h1, h3, ?_⟩
  walk_at "z"
  refine ⟨b, ss, rfl, h2, h4, ?_⟩
  unfold thrD
  walk_at "z"
  unfold apD at k
  walk_at "nes"
  walk_at "br"
  · rename_i hc
    walk_at "zz"
    rw [if_pos hc] at k
    exact k
  · rename_i hc
    rw [if_neg (fun q => q hc)] at k
    walk_at "zz"
    walk_at "nes"
    walk_at "br"
    · rename_i hd
      walk_at "zz"
      rw [if_pos hd] at k
      exact k
    · rename_i hd
      rw [if_neg (fun q => q hd)] at k
      walk_at "zz"
      have l1 := midM_len a ss
      have l2 := midM_len b ss
      refine ⟨_, _, rfl, by omega, ?_⟩
      unfold fapD
      cases hf : fapM (midM a ss) (midM b ss) with
      | none =>
        rw [hf] at k
        walk_at "zz"
        exact k
      | some t =>
        rw [hf] at k
        walk_at "zz"
        exact k
theorem pu_apart {E : XK} : PureOf (spZ pf_apart) pf_apart E := pure_spZ
abbrev N_pair_of : List Str := ["one", "other"]
theorem sc_pair_of : FnScope N_pair_of ["one", "other"] (defScope s_pair_of) := ⟨rfl, rfl, rfl, by decide +kernel, rfl, by decide +kernel, by decide +kernel⟩
def pf_pair_of : PF := fun ds R => ∃ (a b : Nat), ds = [.str [a], .str [b]] ∧ R false (.str (pairM a b))
theorem len_pair_of : ∀ ds R, pf_pair_of ds R → ds.length = 2 := by
  intro ds R h
  (repeat (first | (obtain ⟨e, _⟩ := h; exact congrArg List.length e) | (obtain ⟨_, h⟩ := h)))
theorem ok_pair_of {P : Program} {w : World} {K : PySem.W.Frag} {mg : Str → Option Value} {base : Heap} (T : Txt K mg) : Has P w K mg base CX0 1 "pair_of" ["one", "other"] (spZ pf_pair_of) := by
  obtain ⟨f, fd, g, F⟩ := T.f_pair_of
  refine ⟨f, fd, g, F.kp, F.bindsN (fun _ _ _ _ _ _ us hl => match us, hl with | [_, _], _ => rfl), F.ok sc_pair_of (fun vs H Q E h => spZ_len (len_pair_of) (K := K) vs H Q E h) (fun cdv A outer s H vs Q E hr h => ?_)⟩
  have hu64 : (A.deeper (envOfC "pair_of" (defScope s_pair_of) s.heap.objs.size f cdv)).units + 64 < cLine := hr.units
  have hu : (A.deeper (envOfC "pair_of" (defScope s_pair_of) s.heap.objs.size f cdv)).units + 1 < cLine := by omega
  obtain ⟨A0, Zd0, ds, R, hf, hi, hp0, k⟩ := h
  refine ⟨_, PSs.nox ((pss_one (ps_ret (pe_cut (pe_ifExp (pt_cmpR op_leU (pv 0) (pv 1) (nomark _)) (pe_op op_addZ (pv 0) (pv 1)) (pe_op op_addZ (pv 1) (pv 0))))))), ?_⟩
  refine z_run (n := 0) hf hi ?_ k (cs_ret (ce_cut0 (ce_if (ct_test (ce_op (co_s 0) (co_s 1) z_le)) (ce_op (co_s 0) (co_s 1) z_add) (ce_op (co_s 1) (co_s 0) z_add)))) ?_
  · rw [len_pair_of ds R hp0]; rfl
  clear hf hi k
  clear hr hu64 hu
  obtain ⟨a, b, rfl, k⟩ := hp0
  walk_at "z"
  unfold pairM at k
  by_cases h : a ≤ b
  · rw [decide_eq_true h]
    walk_at "zz"
    rw [if_pos h] at k
    exact k
  · rw [decide_eq_false h]
    walk_at "zz"
    rw [if_neg h] at k
    exact k
theorem pu_pair_of {E : XK} : PureOf (spZ pf_pair_of) pf_pair_of E := pure_spZ
abbrev N_passings : List Str := ["row", "sign", "at"]
theorem sc_passings : FnScope N_passings ["row", "sign"] (defScope s_passings) := ⟨rfl, rfl, rfl, by decide +kernel, rfl, by decide +kernel, by decide +kernel⟩
def pf_passings : PF := fun ds R => ∃ (row : List Nat) (c : Nat), ds = [.str row, .str [c]] ∧ row.length ≤ 1000 ∧ R true (.lst ((passM row c).map .str))
theorem len_passings : ∀ ds R, pf_passings ds R → ds.length = 2 := by
  intro ds R h
  (repeat (first | (obtain ⟨e, _⟩ := h; exact congrArg List.length e) | (obtain ⟨_, h⟩ := h)))
theorem ok_passings {P : Program} {w : World} {K : PySem.W.Frag} {mg : Str → Option Value} {base : Heap} (T : Txt K mg) : Has P w K mg base CX0 2 "passings" ["row", "sign"] (spZ pf_passings) := by
  obtain ⟨f, fd, g, F⟩ := T.f_passings
  obtain ⟨f_pair_of, fd_pair_of, g_pair_of, kp_pair_of, b_pair_of, G_pair_of⟩ := (ok_pair_of (P := P) (w := w) (K := K) (mg := mg) (base := base) T).ex
  refine ⟨f, fd, g, F.kp, F.bindsN (fun _ _ _ _ _ _ us hl => match us, hl with | [_, _], _ => rfl), F.ok sc_passings (fun vs H Q E h => spZ_len (len_passings) (K := K) vs H Q E h) (fun cdv A outer s H vs Q E hr h => ?_)⟩
  have hu64 : (A.deeper (envOfC "passings" (defScope s_passings) s.heap.objs.size f cdv)).units + 64 < cLine := hr.units
  have hu : (A.deeper (envOfC "passings" (defScope s_passings) s.heap.objs.size f cdv)).units + 1 < cLine := by omega
  obtain ⟨A0, Zd0, ds, R, hf, hi, hp0, k⟩ := h
  refine ⟨_, PSs.nox ((pss_one (ps_ret (pe_lc (own := [("at", 2)]) rfl sc_passings.nd (pi_range2 (by rfl) T.z_range (pa_cons pe_int (pa_cons (pe_op op_sub (pe_callB (call_lenK (K := K) rfl) (by rfl) T.z_len PySem.boot_len (pa_cons (pv 0) pa_nil)) pe_int) pa_nil))) (blkOk_by (own := [("at", 2)]) (N := N_passings) (sc := defScope s_passings) (by decide +kernel)) (fun _ _ _ _ _ => (pg_name (i := 2) sc_passings.nd rfl (Or.inl rfl))) (fun _ _ _ _ _ => (pts_cut (pts_one (pt_cmpR (op_eqK (K := K) rfl hu64) (pe_ix (ix_K (K := K) rfl) (pv 0) (pv 2) (fun _ _ => rfl)) (pv 1) (nomark _))))) (fun _ _ _ _ _ => (pe_cut (pe_call G_pair_of (hr.mono (by decide)) rfl g_pair_of kp_pair_of b_pair_of .nil pass0 (pa_cons (pe_ix (ix_K (K := K) rfl) (pv 0) (pe_op op_sub (pv 2) pe_int) (fun _ _ => rfl)) (pa_cons (pe_ix (ix_K (K := K) rfl) (pv 0) (pe_op op_addZ (pv 2) pe_int) (fun _ _ => rfl)) pa_nil))))))))), ?_⟩
  refine z_run (n := 1) hf hi ?_ k (cs_ret (ce_lc (vs := [2]) (ks := [0, 1]) (ci_rng2 ce_int (ce_op (co_e (ce_cb1 (co_s 0) z_len)) (co_e ce_int) z_sub)) (cg_name (by decide)) (ct_cut0 (ct_test (ce_op (co_e (ce_op (co_s 0) (co_s 2) z_ix)) (co_s 1) z_eq))) (ce_cut0 (ce_call (ca_cons (ce_op (co_s 0) (co_e (ce_op (co_s 2) (co_e ce_int) z_sub)) z_ix) (ca_cons (ce_op (co_s 0) (co_e (ce_op (co_s 2) (co_e ce_int) z_add)) z_ix) ca_nil)) pu_pair_of)))) ?_
  · rw [len_passings ds R hp0]; rfl
  clear hf hi k
  clear hr hu64 hu G_pair_of b_pair_of kp_pair_of g_pair_of
  obtain ⟨row, c, rfl, hl, k⟩ := hp0
  walk_at "z"
  walk_at "lc"
  have el : (List.range ((row.length : Int) - 1 - 1).toNat).map (fun k : Nat => Dt.int (1 + (k : Int))) = (inM row).map fun i : Nat => .int (i : Int) := by
    unfold inM
    rw [List.range'_eq_map_range, List.map_map, show ((row.length : Int) - 1 - 1).toNat = row.length - 2 by omega]
    refine List.map_congr_left fun i _ => ?_
    show Dt.int (1 + (i : Int)) = .int ((1 + i : Nat) : Int)
    rw [Int.natCast_add]; rfl
  refine lc_fm (inM row) (fun i : Nat => .int (i : Int)) (fun i => decide ((passW row i).1 = c)) (fun i => .str (passW row i).2) el (by unfold inM; rw [List.length_range']; omega) ?_ ?_
  · intro n i acc G hi hG
    obtain ⟨i1, i2⟩ := inM_mem.mp (List.mem_of_getElem? hi)
    walk_at "z"
    refine zIx_s (k := i) (by omega) (by omega) (.inl rfl) fun x hx => ?_
    have ex : row.getD i 0 = x := by rw [List.getD_eq_getElem?_getD, hx]; rfl
    have e1 : (passW row i).1 = x := ex
    rw [e1] at hG
    walk_at "z"
    by_cases e : x = c
    · rw [decide_eq_true e] at hG ⊢
      rw [if_pos rfl] at hG ⊢
      walk_at "z"
      refine zIx_s (k := i - 1) (by omega) (by omega) (.inl (by omega)) fun y hy => ?_
      walk_at "z"
      refine zIx_s (k := i + 1) (by omega) (by omega) (.inl (by omega)) fun z hz => ?_
      refine ⟨y, z, rfl, ?_⟩
      walk_at "z"
      have e2 : (passW row i).2 = pairM y z := by
        unfold passW
        rw [List.getD_eq_getElem?_getD, List.getD_eq_getElem?_getD (l := row) (i := i - 1), List.getD_eq_getElem?_getD (l := row) (i := i + 1), hy, hz]
        rfl
      rw [e2] at hG
      exact hG
    · rw [decide_eq_false e] at hG ⊢
      rw [if_neg (by decide), List.append_nil] at hG
      rw [if_neg (by decide)]
      exact hG
  · rw [show ((inM row).filter fun i => decide ((passW row i).1 = c)).map (fun i => Dt.str (passW row i).2) = (passM row c).map .str by
      unfold passM
      rw [List.filter_map, List.map_map, List.map_map]
      rfl]
    exact k
theorem pu_passings {E : XK} : PureOf (spZ pf_passings) pf_passings E := pure_spZ
abbrev N_changed : List Str := ["one", "other", "sign", "mine", "yours", "pair"]
theorem sc_changed : FnScope N_changed ["one", "other", "sign"] (defScope s_changed) := ⟨rfl, rfl, rfl, by decide +kernel, rfl, by decide +kernel, by decide +kernel⟩
def pf_changed : PF := fun ds R => ∃ (one other : List Nat) (c : Nat), ds = [.str one, .str other, .str [c]] ∧ RowOk one ∧ RowOk other ∧ R false (.int ((dM (passM one c) (passM other c) : Nat) : Int))
theorem len_changed : ∀ ds R, pf_changed ds R → ds.length = 3 := by
  intro ds R h
  (repeat (first | (obtain ⟨e, _⟩ := h; exact congrArg List.length e) | (obtain ⟨_, h⟩ := h)))
theorem ok_changed {P : Program} {w : World} {K : PySem.W.Frag} {mg : Str → Option Value} {base : Heap} (T : Txt K mg) : Has P w K mg base CX0 3 "changed" ["one", "other", "sign"] (spZ pf_changed) := by
  obtain ⟨f, fd, g, F⟩ := T.f_changed
  obtain ⟨f_passings, fd_passings, g_passings, kp_passings, b_passings, G_passings⟩ := (ok_passings (P := P) (w := w) (K := K) (mg := mg) (base := base) T).ex
  refine ⟨f, fd, g, F.kp, F.bindsN (fun _ _ _ _ _ _ us hl => match us, hl with | [_, _, _], _ => rfl), F.ok sc_changed (fun vs H Q E h => spZ_len (len_changed) (K := K) vs H Q E h) (fun cdv A outer s H vs Q E hr h => ?_)⟩
  have hu64 : (A.deeper (envOfC "changed" (defScope s_changed) s.heap.objs.size f cdv)).units + 64 < cLine := hr.units
  have hu : (A.deeper (envOfC "changed" (defScope s_changed) s.heap.objs.size f cdv)).units + 1 < cLine := by omega
  obtain ⟨A0, Zd0, ds, R, hf, hi, hp0, k⟩ := h
  refine ⟨_, PSs.nox ((pss_cons (ps_parC (i := 3) (j := 4) (by rfl) sc_changed.nd rfl rfl (Or.inr rfl) (Or.inr rfl) (pa_cons (pe_call G_passings (hr.mono (by decide)) rfl g_passings kp_passings b_passings .nil pass0 (pa_cons (pv 0) (pa_cons (pv 2) pa_nil))) (pa_cons (pe_call G_passings (hr.mono (by decide)) rfl g_passings kp_passings b_passings .nil pass0 (pa_cons (pv 1) (pa_cons (pv 2) pa_nil))) pa_nil)) (by rfl))
      (pss_one (ps_ret (pe_op op_sub (pe_callB (call_lenK (K := K) rfl) (by rfl) T.z_len PySem.boot_len (pa_cons (pv 3) pa_nil)) (pe_callB (cr_sumK (K := K) rfl rfl) (by rfl) T.z_sum (by decide +kernel) (pa_cons (pe_lc (own := [("pair", 5)]) rfl sc_changed.nd (pi_anyK (K := K) rfl (pe_sortset (K := K) rfl rfl hu64 (by rfl) T.z_sorted (by rfl) T.z_set (pv 3))) (blkOk_by (own := [("pair", 5)]) (N := N_changed) (sc := defScope s_changed) (by decide +kernel)) (fun _ _ _ _ _ => (pg_name (i := 5) sc_changed.nd rfl (Or.inl rfl))) (fun _ _ _ _ _ => (pts_cut pts_nil)) (fun _ _ _ _ _ => (pe_cut (pe_callB (call_minZ rfl) (by rfl) T.z_min (by decide +kernel) (pa_cons (pe_bmK (K := K) rfl PySem.F.plainAttrs_list PySem.F.slot_list_count PySem.F.type_list_count (mt_cntVK (K := K) rfl) (pv 3) (pa_cons (pv 5) pa_nil)) (pa_cons (pe_bmK (K := K) rfl PySem.F.plainAttrs_list PySem.F.slot_list_count PySem.F.type_list_count (mt_cntVK (K := K) rfl) (pv 4) (pa_cons (pv 5) pa_nil)) pa_nil)))))) pa_nil))))))), ?_⟩
  refine z_run (n := 3) hf hi ?_ k (cs_seq (cs_par (ce_call (ca_cons (ce_var 0) (ca_cons (ce_var 2) ca_nil)) pu_passings) (ce_call (ca_cons (ce_var 1) (ca_cons (ce_var 2) ca_nil)) pu_passings))
      (cs_ret (ce_op (co_e (ce_cb1 (co_s 3) z_len)) (co_e (ce_cb1 (co_e (ce_lc (vs := [5]) (ks := [3, 4]) (ci_any (ce_setS (co_s 3))) (cg_name (by decide)) (ct_cut0 ct_yes) (ce_cut0 (ce_cb2 (co_e (ce_lm1 z_cntT (ce_var 3) (co_s 5))) (co_e (ce_lm1 z_cntT (ce_var 4) (co_s 5))) z_min)))) z_sum)) z_sub))) ?_
  · rw [len_changed ds R hp0]; rfl
  clear hf hi k
  clear hr hu64 hu G_passings b_passings kp_passings g_passings
  obtain ⟨one, other, c, rfl, h1, h2, k⟩ := hp0
  have l1 := h1.2.1
  have l2 := h2.2.1
  walk_at "z"
  refine ⟨one, c, rfl, by omega, ?_⟩
  walk_at "z"
  refine ⟨other, c, rfl, by omega, ?_⟩
  walk_at "z"
  walk_at "lc"
  have p1 := passM_len one c
  have p2 := passM_len other c
  have hS := dM_count (S := setT (passM one c)) (setT_nodup _) (passM other c) (passM one c) fun x hx => setT_mem.mpr hx
  have hsl := setT_len (passM one c)
  refine ⟨by omega, ?_⟩
  refine lc_map (setT (passM one c)) .str (fun p => .int ((min ((passM one c).count p) ((passM other c).count p) : Nat) : Int)) rfl (by omega) ?_ ?_
  · intro i p acc G hi hG
    walk_at "z"
    refine ⟨_, _, rfl, rfl, ?_⟩
    walk_at "z"
    refine ⟨_, _, rfl, rfl, ?_⟩
    walk_at "z"
    rw [min_int]
    exact hG
  · rw [show (setT (passM one c)).map (fun p => Dt.int ((min ((passM one c).count p) ((passM other c).count p) : Nat) : Int)) = ((setT (passM one c)).map fun p => ((min ((passM one c).count p) ((passM other c).count p) : Nat) : Int)).map .int by rw [List.map_map]; rfl]
    refine ⟨_, rfl, ?_⟩
    rw [isum_nat]
    dsimp only
    walk_at "z"
    rw [List.length_map]
    have e : ((passM one c).length : Int) - ((((setT (passM one c)).map fun p => min ((passM one c).count p) ((passM other c).count p)).sum : Nat) : Int) = ((dM (passM one c) (passM other c) : Nat) : Int) := by omega
    rw [e]
    exact k
theorem pu_changed {E : XK} : PureOf (spZ pf_changed) pf_changed E := pure_spZ
abbrev N_price_of : List Str := ["prices", "sign"]
theorem sc_price_of : FnScope N_price_of ["prices", "sign"] (defScope s_price_of) := ⟨rfl, rfl, rfl, by decide +kernel, rfl, by decide +kernel, by decide +kernel⟩
def pf_price_of : PF := fun ds R => ∃ (ps : List Nat) (d : Dt) (c : Nat), ds = [d, .str [c]] ∧ PrD ps d ∧ PriceOk ps ∧ c ∈ abcS ∧ R false (.int ((priceM ps c : Nat) : Int))
theorem len_price_of : ∀ ds R, pf_price_of ds R → ds.length = 2 := by
  intro ds R h
  (repeat (first | (obtain ⟨e, _⟩ := h; exact congrArg List.length e) | (obtain ⟨_, h⟩ := h)))
theorem ok_price_of {P : Program} {w : World} {K : PySem.W.Frag} {mg : Str → Option Value} {base : Heap} (T : Txt K mg) : Has P w K mg base CX0 1 "price_of" ["prices", "sign"] (spZ pf_price_of) := by
  obtain ⟨f, fd, g, F⟩ := T.f_price_of
  refine ⟨f, fd, g, F.kp, F.bindsN (fun _ _ _ _ _ _ us hl => match us, hl with | [_, _], _ => rfl), F.ok sc_price_of (fun vs H Q E h => spZ_len (len_price_of) (K := K) vs H Q E h) (fun cdv A outer s H vs Q E hr h => ?_)⟩
  have hu64 : (A.deeper (envOfC "price_of" (defScope s_price_of) s.heap.objs.size f cdv)).units + 64 < cLine := hr.units
  have hu : (A.deeper (envOfC "price_of" (defScope s_price_of) s.heap.objs.size f cdv)).units + 1 < cLine := by omega
  obtain ⟨A0, Zd0, ds, R, hf, hi, hp0, k⟩ := h
  refine ⟨_, PSs.nox ((pss_one (ps_ret (pe_ix (ix_K (K := K) rfl) (pv 0) (pe_bmK (K := K) rfl PySem.F.plainAttrs_str PySem.F.slot_str_index PySem.F.type_str_index mt_idxS (pe_gc rfl T.c_SIGNS) (pa_cons (pv 1) pa_nil)) (fun _ _ => rfl))))), ?_⟩
  refine z_run (n := 0) hf hi ?_ k (cs_ret (ce_op (co_s 0) (co_e (ce_str1 z_idxS ce_str (co_s 1))) z_ix)) ?_
  · rw [len_price_of ds R hp0]; rfl
  clear hf hi k
  clear hr hu64 hu
  obtain ⟨ps, d, c, rfl, hd, ⟨hl, hp⟩, hc, k⟩ := hp0
  have hx : ∀ c ∈ abcS, abcS[c - 97]? = some c ∧ c - 97 < 8 ∧ ∀ m, m < c - 97 → abcS[m]? ≠ some c := by decide
  obtain ⟨x1, x2, x3⟩ := hx c hc
  have hg : ∀ d : Dt, (ps.map fun p : Nat => Dt.int (p : Int))[c - 97]? = some d → d = .int ((priceM ps c : Nat) : Int) := fun d h => by
    rw [List.getElem?_map] at h
    unfold priceM
    rw [List.getD_eq_getElem?_getD]
    cases e : ps[c - 97]? with
    | none => rw [e] at h; cases h
    | some x => rw [e] at h; cases h; rfl
  rcases hd with rfl | rfl <;>
  · walk_at "z"
    rw [zIdxS_s]
    refine ⟨c - 97, x1, x3, ?_⟩
    refine zIx_t (k := c - 97) (by rw [List.length_map, hl]; exact x2) (.inl rfl) fun d hd => ?_
    rw [hg d hd]
    exact k
theorem pu_price_of {E : XK} : PureOf (spZ pf_price_of) pf_price_of E := pure_spZ
theorem sum_filt {p : Nat → Bool} {f : Nat → Nat} : ∀ {S : List Nat}, (∀ x ∈ S, p x = false → f x = 0) → ((S.filter p).map f).sum = (S.map f).sum
  | [], _ => rfl
  | x :: S, h => by
    have ih := sum_filt (p := p) (f := f) (S := S) fun y hy => h y (List.mem_cons_of_mem _ hy)
    rw [List.filter_cons, List.map_cons, List.sum_cons]
    cases e : p x with
    | true => rw [if_pos rfl, List.map_cons, List.sum_cons, ih]
    | false => rw [if_neg (by decide), ih, h x (List.mem_cons_self ..) e, Nat.zero_add]
theorem remM_nil {α : Type} [BEq α] : ∀ (G : List α), remM [] G = []
  | [] => rfl
  | g :: G => by
    show remM ([].erase g) G = []
    rw [List.erase_nil]
    exact remM_nil G
theorem pass_none {row : List Nat} {c : Nat} (h : c ∉ row) : passM row c = [] := by
  unfold passM
  rw [List.map_eq_nil_iff, List.filter_eq_nil_iff]
  intro q hq
  obtain ⟨i, hi, rfl⟩ := List.mem_map.mp hq
  obtain ⟨i1, i2⟩ := inM_mem.mp hi
  simp only [decide_eq_true_eq]
  intro e
  refine h (e ▸ ?_)
  show row.getD i 0 ∈ row
  rw [List.getD_eq_getElem?_getD, List.getElem?_eq_getElem (by omega)]
  exact List.getElem_mem _
theorem floor_signs (row goal ps : List Nat) : ((sgM row).map (floorT row goal ps)).sum = floorM row goal ps := by
  unfold floorM sgM
  refine sum_filt fun c _ hc => ?_
  unfold floorT
  rw [pass_none (of_decide_eq_false hc)]
  unfold dM
  rw [remM_nil]
  simp
abbrev N_floor : List Str := ["one", "other", "prices", "sign"]
theorem sc_floor : FnScope N_floor ["one", "other", "prices"] (defScope s_floor) := ⟨rfl, rfl, rfl, by decide +kernel, rfl, by decide +kernel, by decide +kernel⟩
def pf_floor : PF := fun ds R => ∃ (one other ps : List Nat) (d : Dt), ds = [.str one, .str other, d] ∧ RowOk one ∧ RowOk other ∧ PrD ps d ∧ PriceOk ps ∧ thrD one [] = thrD other [] ∧ R false (.int ((floorM one other ps : Nat) : Int))
theorem len_floor : ∀ ds R, pf_floor ds R → ds.length = 3 := by
  intro ds R h
  (repeat (first | (obtain ⟨e, _⟩ := h; exact congrArg List.length e) | (obtain ⟨_, h⟩ := h)))
theorem ok_floor {P : Program} {w : World} {K : PySem.W.Frag} {mg : Str → Option Value} {base : Heap} (T : Txt K mg) : Has P w K mg base CX0 4 "floor" ["one", "other", "prices"] (spZ pf_floor) := by
  obtain ⟨f, fd, g, F⟩ := T.f_floor
  obtain ⟨f_apart, fd_apart, g_apart, kp_apart, b_apart, G_apart⟩ := (ok_apart (P := P) (w := w) (K := K) (mg := mg) (base := base) T).ex
  obtain ⟨f_changed, fd_changed, g_changed, kp_changed, b_changed, G_changed⟩ := (ok_changed (P := P) (w := w) (K := K) (mg := mg) (base := base) T).ex
  obtain ⟨f_need_prices, fd_need_prices, g_need_prices, kp_need_prices, b_need_prices, G_need_prices⟩ := (ok_need_prices (P := P) (w := w) (K := K) (mg := mg) (base := base) T).ex
  obtain ⟨f_need_row, fd_need_row, g_need_row, kp_need_row, b_need_row, G_need_row⟩ := (ok_need_row (P := P) (w := w) (K := K) (mg := mg) (base := base) T).ex
  obtain ⟨f_price_of, fd_price_of, g_price_of, kp_price_of, b_price_of, G_price_of⟩ := (ok_price_of (P := P) (w := w) (K := K) (mg := mg) (base := base) T).ex
  refine ⟨f, fd, g, F.kp, F.bindsN (fun _ _ _ _ _ _ us hl => match us, hl with | [_, _, _], _ => rfl), F.ok sc_floor (fun vs H Q E h => spZ_len (len_floor) (K := K) vs H Q E h) (fun cdv A outer s H vs Q E hr h => ?_)⟩
  have hu64 : (A.deeper (envOfC "floor" (defScope s_floor) s.heap.objs.size f cdv)).units + 64 < cLine := hr.units
  have hu : (A.deeper (envOfC "floor" (defScope s_floor) s.heap.objs.size f cdv)).units + 1 < cLine := by omega
  obtain ⟨A0, Zd0, ds, R, hf, hi, hp0, k⟩ := h
  refine ⟨_, PSs.nox ((pss_cons (ps_expr (pe_call G_need_row (hr.mono (by decide)) rfl g_need_row kp_need_row b_need_row .nil pass0 (pa_cons (pv 0) pa_nil)))
      (pss_cons (ps_expr (pe_call G_need_row (hr.mono (by decide)) rfl g_need_row kp_need_row b_need_row .nil pass0 (pa_cons (pv 1) pa_nil)))
      (pss_cons (ps_expr (pe_call G_need_prices (hr.mono (by decide)) rfl g_need_prices kp_need_prices b_need_prices .nil pass0 (pa_cons (pv 2) pa_nil)))
      (pss_cons (ps_if (pt_cmpR op_notN1 (pe_call G_apart (hr.mono (by decide)) rfl g_apart kp_apart b_apart .nil pass0 (pa_cons (pv 0) (pa_cons (pv 1) (pa_cons (pe_strL (l := []) (by decide +kernel)) pa_nil)))) pe_non (nomark _)) (pss_one ps_never) pss_nil)
      (pss_one (ps_ret (pe_callB (cr_sumK (K := K) rfl rfl) (by rfl) T.z_sum (by decide +kernel) (pa_cons (pe_lc (own := [("sign", 3)]) rfl sc_floor.nd (pi_anyK (K := K) rfl (pe_sortset (K := K) rfl rfl hu64 (by rfl) T.z_sorted (by rfl) T.z_set (pv 0))) (blkOk_by (own := [("sign", 3)]) (N := N_floor) (sc := defScope s_floor) (by decide +kernel)) (fun _ _ _ _ _ => (pg_name (i := 3) sc_floor.nd rfl (Or.inl rfl))) (fun _ _ _ _ _ => (pts_cut pts_nil)) (fun _ _ _ _ _ => (pe_cut (pe_op op_mulZ (pe_op op_fdivN (pe_op op_addZ (pe_call G_changed (hr.mono (by decide)) rfl g_changed kp_changed b_changed .nil pass0 (pa_cons (pv 0) (pa_cons (pv 1) (pa_cons (pv 3) pa_nil)))) pe_int) pe_int) (pe_call G_price_of (hr.mono (by decide)) rfl g_price_of kp_price_of b_price_of .nil pass0 (pa_cons (pv 2) (pa_cons (pv 3) pa_nil))))))) pa_nil))))))))), ?_⟩
  refine z_run (n := 1) hf hi ?_ k (cs_seq (cs_drop (ce_call (ca_cons (ce_var 0) ca_nil) pu_need_row))
      (cs_seq (cs_drop (ce_call (ca_cons (ce_var 1) ca_nil) pu_need_row))
      (cs_seq (cs_drop (ce_call (ca_cons (ce_var 2) ca_nil) pu_need_prices))
      (cs_seq (cs_if (ct_test (ce_op (co_e (ce_call (ca_cons (ce_var 0) (ca_cons (ce_var 1) (ca_cons ce_str ca_nil))) pu_apart)) (co_e ce_non) z_notN)) cs_never cs_next)
      (cs_ret (ce_cb1 (co_e (ce_lc (vs := [3]) (ks := [2, 0, 1]) (ci_any (ce_setS (co_s 0))) (cg_name (by decide)) (ct_cut0 ct_yes) (ce_cut0 (ce_op (co_e (ce_op (co_e (ce_op (co_e (ce_call (ca_cons (ce_var 0) (ca_cons (ce_var 1) (ca_cons (ce_var 3) ca_nil))) pu_changed)) (co_e ce_int) z_add)) (co_e ce_int) z_div)) (co_e (ce_call (ca_cons (ce_var 2) (ca_cons (ce_var 3) ca_nil)) pu_price_of)) z_mulZ)))) z_sum)))))) ?_
  · rw [len_floor ds R hp0]; rfl
  clear hf hi k
  clear hr hu64 hu G_apart b_apart kp_apart g_apart G_changed b_changed kp_changed g_changed G_need_prices b_need_prices kp_need_prices g_need_prices G_need_row b_need_row kp_need_row g_need_row G_price_of b_price_of kp_price_of g_price_of
  obtain ⟨one, other, ps, d, rfl, hr, ho, hd, hp, he, k⟩ := hp0
  obtain ⟨h1, h2, h3⟩ := id hr
  obtain ⟨o1, o2, o3⟩ := id ho
  walk_at "z"
  refine ⟨one, rfl, h1, h2, h3, ?_⟩
  walk_at "z"
  refine ⟨other, rfl, o1, o2, o3, ?_⟩
  walk_at "z"
  refine ⟨ps, d, rfl, hd, hp, ?_⟩
  walk_at "z"
  refine ⟨one, other, [], rfl, by omega, by omega, hr.ok, ho.ok, ?_⟩
  rw [apD_same he]
  walk_at "z"
  walk_at "lc"
  rw [setT_abc h3, List.map_map]
  have hsl := (sgM_sub one).length_le
  rw [show abcS.length = 8 from rfl] at hsl
  refine lc_map (sgM one) (fun c => .str [c]) (fun c => .int ((floorT one other ps c : Nat) : Int)) rfl (by omega) ?_ ?_
  · intro i c acc G hi hG
    have hc := (sgM_mem.mp (List.mem_of_getElem? hi)).1
    walk_at "z"
    refine ⟨one, other, c, rfl, hr, ho, ?_⟩
    walk_at "z"
    refine ⟨⟨by decide, by decide⟩, ?_⟩
    walk_at "z"
    refine ⟨ps, d, c, rfl, hd, hp, hc, ?_⟩
    walk_at "z"
    have hpc : priceM ps c ≤ 99 := priceM_le hp
    have e1 : (((dM (passM one c) (passM other c) : Nat) : Int) + 1).fdiv 2 = (((dM (passM one c) (passM other c) + 1) / 2 : Nat) : Int) := by
      rw [Int.fdiv_eq_ediv_of_nonneg _ (by omega)]
      omega
    rw [e1]
    refine ⟨.inr ⟨by omega, by omega⟩, ?_⟩
    rw [← Int.natCast_mul]
    exact hG
  · rw [show (sgM one).map (fun c => Dt.int ((floorT one other ps c : Nat) : Int)) = ((sgM one).map fun c => ((floorT one other ps c : Nat) : Int)).map .int by rw [List.map_map]; rfl]
    refine ⟨_, rfl, ?_⟩
    rw [isum_nat, floor_signs]
    exact k
theorem pu_floor {E : XK} : PureOf (spZ pf_floor) pf_floor E := pure_spZ
abbrev N_why_not : List Str := ["row", "pins", "turn", "place"]
theorem sc_why_not : FnScope N_why_not ["row", "pins", "turn"] (defScope s_why_not) := ⟨rfl, rfl, rfl, by decide +kernel, rfl, by decide +kernel, by decide +kernel⟩
def sp_why_not (K : PySem.W.Frag) : Sp := fun vs H Q _ => ∃ (row held : List Nat) (T : Addr) (h t : Int), vs = [Tx row, Tx held, .ref T] ∧ Rd H T (.tup [.int h, .int t]) ∧ row.length ≤ 1000 ∧ ∀ H', Ex H H' → Q (Tx (whyM row held h t)) H'
theorem ok_why_not {P : Program} {w : World} {K : PySem.W.Frag} {mg : Str → Option Value} {base : Heap} (T : Txt K mg) : Has P w K mg base CX0 2 "why_not" ["row", "pins", "turn"] (sp_why_not K) := by
  obtain ⟨f, fd, g, F⟩ := T.f_why_not
  obtain ⟨f_is_number, fd_is_number, g_is_number, kp_is_number, b_is_number, G_is_number⟩ := (ok_is_number (P := P) (w := w) (K := K) (mg := mg) (base := base) T).ex
  refine ⟨f, fd, g, F.kp, F.bindsN (fun _ _ _ _ _ _ us hl => match us, hl with | [_, _, _], _ => rfl), F.ok sc_why_not (fun vs H Q E h => ?_) (fun cdv A outer s H vs Q E hr h => ?_)⟩
  · repeat (first | (obtain ⟨e, _⟩ := h; exact congrArg List.length e) | (obtain ⟨_, h⟩ := h))
  have hu64 : (A.deeper (envOfC "why_not" (defScope s_why_not) s.heap.objs.size f cdv)).units + 64 < cLine := hr.units
  refine ⟨_, PSs.nox ((pss_cons (ps_if (pt_cut (PW.pt (pw_or (pt_not (pt_val (pe_callB call_isU (by rfl) T.z_isinstance (by decide +kernel) (pa_cons (pv 2) (pa_cons (pe_bltn (v := .ty "tuple") rfl T.z_tuple (by decide +kernel) rfl) pa_nil))))) (pw_or1 (pt_cmpR (op_neK (K := K) rfl hu64) (pe_callB (call_lenK (K := K) rfl) (by rfl) T.z_len PySem.boot_len (pa_cons (pv 2) pa_nil)) pe_int (nomark _)))))) (pss_one (ps_ret (pe_strL (l := [112, 108, 97, 99, 101]) (by decide +kernel)))) pss_nil)
      (pss_cons (ps_if (pt_cut (PW.pt (pw_or (pt_not (pt_val (pe_callB (call_allK (K := K) rfl rfl) (by rfl) T.z_all (by decide +kernel) (pa_cons (pe_lc (own := [("place", 3)]) rfl sc_why_not.nd (pi_anyK (K := K) rfl (pv 2)) (blkOk_by (own := [("place", 3)]) (N := N_why_not) (sc := defScope s_why_not) (by decide +kernel)) (fun _ _ _ _ _ => (pg_name (i := 3) sc_why_not.nd rfl (Or.inl rfl))) (fun _ _ _ _ _ => (pts_cut pts_nil)) (fun _ _ _ _ _ => (pe_cut (pe_call G_is_number (hr.mono (by decide)) rfl g_is_number kp_is_number b_is_number .nil pass0 (pa_cons (pv 3) (pa_cons pe_int (pa_cons (pe_op op_sub (pe_callB (call_lenK (K := K) rfl) (by rfl) T.z_len PySem.boot_len (pa_cons (pv 0) pa_nil)) pe_int) pa_nil))))))) pa_nil)))) (pw_or1 (pt_cmpR op_geU (pe_ix (ix_K (K := K) rfl) (pv 2) pe_int (fun _ _ => rfl)) (pe_ix (ix_K (K := K) rfl) (pv 2) pe_int (fun _ _ => rfl)) (nomark _)))))) (pss_one (ps_ret (pe_strL (l := [112, 108, 97, 99, 101]) (by decide +kernel)))) pss_nil)
      (pss_cons (ps_if (pt_cmpR (op_neK (K := K) rfl hu64) (pe_ix (ix_K (K := K) rfl) (pv 0) (pe_ix (ix_K (K := K) rfl) (pv 2) pe_int (fun _ _ => rfl)) (fun _ _ => rfl)) (pe_ix (ix_K (K := K) rfl) (pv 0) (pe_ix (ix_K (K := K) rfl) (pv 2) pe_int (fun _ _ => rfl)) (fun _ _ => rfl)) (nomark _)) (pss_one (ps_ret (pe_strL (l := [117, 110, 108, 105, 107, 101]) (by decide +kernel)))) pss_nil)
      (pss_one (ps_ret (pe_cut (pe_ifExp (pt_cmpR (op_inK (K := K) rfl) (pe_ix (ix_K (K := K) rfl) (pv 0) (pe_ix (ix_K (K := K) rfl) (pv 2) pe_int (fun _ _ => rfl)) (fun _ _ => rfl)) (pv 1) (by rfl)) (pe_strL (l := [112, 105, 110, 110, 101, 100]) (by decide +kernel)) (pe_strL (l := []) (by decide +kernel)))))))))), ?_⟩
  obtain ⟨row, held, T, h, t, rfl, hT, hl, k⟩ := h
  (generalize hst : L2.start _ _ = st0; simp only [L2.start, N_why_not, List.map_cons, List.map_nil, List.length_cons, List.length_nil, Nat.reduceAdd, Nat.reduceSub, List.replicate_succ, List.replicate_zero, List.cons_append, List.nil_append, List.append_nil] at hst; subst hst)
  walk_at "go"
  refine w_cutB false ?_ ?_
  · walk_at "go"
    exact ⟨rfl, rfl⟩
  walk_at "go"
  refine w_cutT (fun b H' => b = !decide (0 ≤ h ∧ h < t ∧ t < (row.length : Int)) ∧ Ex H H') ?_ ?_
  · walk_at "go"
    refine lcX_bl walk_tup (by simp) (fun i => decide (0 ≤ [h, t].getD i 0 ∧ [h, t].getD i 0 ≤ (row.length : Int) - 1)) (fun H1 e => .inl (hT.ex e)) (fun v => rfl) ?_ ?_
    · rintro i x H1 H2 Q' hi e ⟨rfl, hx⟩ kk
      have hx' : x = .int ([h, t].getD i 0) := by
        match i, hx with
        | 0, hx => cases hx; rfl
        | 1, hx => cases hx; rfl
      subst hx'
      walk_at "go"
      exact kk _ (Ex.refl _)
    · intro p H2 hp e h2
      walk_at "go"
      refine w_all h2 ?_
      have eb : ((List.range [V.int h, V.int t].length).map fun i => decide (0 ≤ [h, t].getD i 0 ∧ [h, t].getD i 0 ≤ (row.length : Int) - 1)).all id = decide (0 ≤ h ∧ h < (row.length : Int) ∧ 0 ≤ t ∧ t < (row.length : Int)) := by
        show (decide (0 ≤ h ∧ h ≤ (row.length : Int) - 1) && (decide (0 ≤ t ∧ t ≤ (row.length : Int) - 1) && true)) = _
        rw [Bool.and_true, ← Bool.decide_and]
        refine decide_eq_decide.mpr ?_
        omega
      rw [eb]
      walk_at "go"
      by_cases c : 0 ≤ h ∧ h < (row.length : Int) ∧ 0 ≤ t ∧ t < (row.length : Int)
      · rw [decide_eq_true c]
        walk_at "go"
        refine ⟨?_, e⟩
        by_cases q : t ≤ h
        · rw [decide_eq_true q, decide_eq_false (by omega)]; rfl
        · rw [decide_eq_false q, decide_eq_true (by omega)]; rfl
      · rw [decide_eq_false c, decide_eq_false (by omega)]
        walk_at "go"
        exact ⟨rfl, e⟩
  · rintro b H1 ⟨rfl, e1⟩
    by_cases c : 0 ≤ h ∧ h < t ∧ t < (row.length : Int)
    · rw [decide_eq_true c]
      obtain ⟨c0, c1, c2⟩ := c
      have hh : row[h.toNat]? = some (row.getD h.toNat 0) := by
        rw [List.getD_eq_getElem?_getD, List.getElem?_eq_getElem (by omega)]; rfl
      have ht : row[t.toNat]? = some (row.getD t.toNat 0) := by
        rw [List.getD_eq_getElem?_getD, List.getElem?_eq_getElem (by omega)]; rfl
      unfold whyM at k
      rw [if_pos ⟨c0, c1, c2⟩] at k
      walk_at "go"
      rename_i d1 q1 d2 q2
      rw [hh] at q1
      rw [ht] at q2
      cases q1
      cases q2
      by_cases c : row.getD h.toNat 0 = row.getD t.toNat 0
      · rw [decide_eq_true c]
        rw [if_neg (fun q => q c)] at k
        walk_at "go"
        refine w_cutV (Tx (if row.getD h.toNat 0 ∈ held then [112, 105, 110, 110, 101, 100] else [])) ?_ (k _ e1)
        walk_at "go"
        rename_i d1 q1
        rw [hh] at q1
        cases q1
        by_cases c' : row.getD h.toNat 0 ∈ held
        · rw [decide_eq_true c', if_pos c']
          walk_at "go"
          exact ⟨rfl, rfl⟩
        · rw [decide_eq_false c', if_neg c']
          walk_at "go"
          exact ⟨rfl, rfl⟩
      · rw [decide_eq_false c]
        rw [if_pos c] at k
        walk_at "go"
        exact k _ e1
    · rw [decide_eq_false c]
      walk_at "go"
      have : whyM row held h t = [112, 108, 97, 99, 101] := by unfold whyM; rw [if_neg c]
      rw [this] at k
      exact k _ e1
theorem use_why_not {K : PySem.W.Frag} {row held : List Nat} {T : Addr} {h t : Int} {H : Hp} {Q : VK} {E : XK} (hT : Rd H T (.tup [.int h, .int t])) (hl : row.length ≤ 1000) (k : ∀ H', Ex H H' → Q (Tx (whyM row held h t)) H') : sp_why_not K [Tx row, Tx held, .ref T] H Q E := ⟨row, held, T, h, t, rfl, hT, hl, k⟩
local macro_rules | `(tactic| walk_at "st") => `(tactic| ((with_reducible refine use_why_not (h := ?h) (t := ?t) ?hT ?hl ?hk); (case hT => walk_at "liftR"); (case hl => walk_at "sz"); intro H2 e2))
def pf_why_not : PF := fun ds R => ∃ (row held : List Nat) (h t : Int), ds = [.str row, .str held, .tup [.int h, .int t]] ∧ row.length ≤ 1000 ∧ R false (.str (whyM row held h t))
theorem pu_why_not {K : PySem.W.Frag} {E : XK} : PureOf (sp_why_not K) pf_why_not E := by
  rintro c L H vs ds Q R hh hf ⟨row, held, h, t, rfl, h1, hr⟩ k
  obtain ⟨v, ws, rfl, e1, v2, ws2, rfl, e2, v3, ws3, rfl, ⟨T, xs, rfl, _, hT, w1, x1, rfl, e3, w2, x2, rfl, e5, e6⟩, e4⟩ := hf
  cases e1; cases e2; cases e3; cases e5; cases e6; cases e4
  exact ⟨row, held, T, h, t, rfl, hT, h1, fun H' e => k _ _ _ _ hr (sub_str hh e _)⟩
abbrev N_behind : List Str := ["row", "turn", "here", "there"]
theorem sc_behind : FnScope N_behind ["row", "turn"] (defScope s_behind) := ⟨rfl, rfl, rfl, by decide +kernel, rfl, by decide +kernel, by decide +kernel⟩
def sp_behind (K : PySem.W.Frag) : Sp := fun vs H Q _ => ∃ (row : List Nat) (T : Addr) (h t : Nat), vs = [Tx row, .ref T] ∧ Rd H T (.tup [.int h, .int t]) ∧ h ≤ t ∧ t < row.length ∧ row.length ≤ 1000 ∧ Q (Tx (turnM row h t)) H
theorem ok_behind {P : Program} {w : World} {K : PySem.W.Frag} {mg : Str → Option Value} {base : Heap} (T : Txt K mg) : Has P w K mg base CX0 1 "behind" ["row", "turn"] (sp_behind K) := by
  obtain ⟨f, fd, g, F⟩ := T.f_behind
  refine ⟨f, fd, g, F.kp, F.bindsN (fun _ _ _ _ _ _ us hl => match us, hl with | [_, _], _ => rfl), F.ok sc_behind (fun vs H Q E h => ?_) (fun cdv A outer s H vs Q E hr h => ?_)⟩
  · repeat (first | (obtain ⟨e, _⟩ := h; exact congrArg List.length e) | (obtain ⟨_, h⟩ := h))
  have hu64 : (A.deeper (envOfC "behind" (defScope s_behind) s.heap.objs.size f cdv)).units + 64 < cLine := hr.units
  refine ⟨_, PSs.nox ((pss_cons (ps_asg (pv 1) (pg_tupK (K := K) (n := 2) rfl (by rfl) (pgs_cons (pg_name (i := 2) sc_behind.nd rfl (Or.inl rfl)) (pgs_cons (pg_name (i := 3) sc_behind.nd rfl (Or.inl rfl)) pgs_nil))))
      (pss_one (ps_ret (pe_op op_addU (pe_op op_addU (pe_slice sl_U (pv 0) po_none (po_some (pv 2))) (pe_revX (pe_slice sl_U (pv 0) (po_some (pv 2)) (po_some (pe_op op_addU (pv 3) pe_int))))) (pe_slice sl_U (pv 0) (po_some (pe_op op_addU (pv 3) pe_int)) po_none)))))), ?_⟩
  obtain ⟨row, T, h, t, rfl, hT, hh, ht, hl, k⟩ := h
  (generalize hst : L2.start _ _ = st0; simp only [L2.start, N_behind, List.map_cons, List.map_nil, List.length_cons, List.length_nil, Nat.reduceAdd, Nat.reduceSub, List.replicate_succ, List.replicate_zero, List.cons_append, List.nil_append, List.append_nil] at hst; subst hst)
  have l1 := cutL_length row none (some (h : Int))
  have l2 := cutL_length row (some ((t : Int) + 1)) none
  have l3 := cutL_length row (some (h : Int)) (some ((t : Int) + 1))
  walk_at "go"
  have eq : cutL row none (some (h : Int)) ++ (cutL row (some (h : Int)) (some ((t : Int) + 1))).reverse ++ cutL row (some ((t : Int) + 1)) none = turnM row h t := by
    rw [cutL_to _ (by omega), cutL_from _ (by omega), cutL_both _ (by omega) (by omega)]
    unfold turnM
    have : ((t : Int) + 1).toNat = t + 1 := by omega
    rw [this]; rfl
  rw [eq]
  exact k
theorem use_behind {K : PySem.W.Frag} {row : List Nat} {T : Addr} {h t : Nat} {H : Hp} {Q : VK} {E : XK} (hT : Rd H T (.tup [.int h, .int t])) (hh : h ≤ t) (ht : t < row.length) (hl : row.length ≤ 1000) (k : Q (Tx (turnM row h t)) H) : sp_behind K [Tx row, .ref T] H Q E := ⟨row, T, h, t, rfl, hT, hh, ht, hl, k⟩
local macro_rules | `(tactic| walk_at "st") => `(tactic| ((with_reducible refine use_behind (h := ?h) (t := ?t) ?hT ?hh ?ht ?hl ?hk); (case hT => walk_at "liftR"); (case hh => walk_at "sz"); (case ht => walk_at "sz"); (case hl => walk_at "sz")))
def pf_behind : PF := fun ds R => ∃ (row : List Nat) (h t : Nat), ds = [.str row, .tup [.int h, .int t]] ∧ h ≤ t ∧ t < row.length ∧ row.length ≤ 1000 ∧ R false (.str (turnM row h t))
theorem pu_behind {K : PySem.W.Frag} {E : XK} : PureOf (sp_behind K) pf_behind E := by
  rintro c L H vs ds Q R hh hf ⟨row, h, t, rfl, h1, h2, h3, hr⟩ k
  obtain ⟨v, ws, rfl, e1, v3, ws3, rfl, ⟨T, xs, rfl, _, hT, w1, x1, rfl, e3, w2, x2, rfl, e5, e6⟩, e4⟩ := hf
  cases e1; cases e3; cases e5; cases e6; cases e4
  exact ⟨row, T, h, t, rfl, hT, h1, h2, h3, k _ _ _ _ hr (sub_str hh (Ex.refl _) _)⟩
abbrev N_gone : List Str := ["row", "some", "prices", "cost", "number", "turn", "why"]
theorem sc_gone : FnScope N_gone ["row", "some", "prices"] (defScope s_gone) := ⟨rfl, rfl, rfl, by decide +kernel, rfl, by decide +kernel, by decide +kernel⟩
def pf_gone : PF := fun ds R => ∃ (row ps : List Nat) (ts : List (Nat × Nat)) (d : Dt), ds = [.str row, .lst (ts.map dPr), d] ∧ RowOk row ∧ PrD ps d ∧ PriceOk ps ∧ goesM [] row ts ∧ ts.length ≤ 1000 ∧ R false (.tup [.str (runM row ts), .int ((costM ps row ts : Nat) : Int)])
theorem len_gone : ∀ ds R, pf_gone ds R → ds.length = 3 := by
  intro ds R h
  (repeat (first | (obtain ⟨e, _⟩ := h; exact congrArg List.length e) | (obtain ⟨_, h⟩ := h)))
theorem ok_gone {P : Program} {w : World} {K : PySem.W.Frag} {mg : Str → Option Value} {base : Heap} (T : Txt K mg) : Has P w K mg base CX0 3 "gone" ["row", "some", "prices"] (spZ pf_gone) := by
  obtain ⟨f, fd, g, F⟩ := T.f_gone
  obtain ⟨f_behind, fd_behind, g_behind, kp_behind, b_behind, G_behind⟩ := (ok_behind (P := P) (w := w) (K := K) (mg := mg) (base := base) T).ex
  obtain ⟨f_price_of, fd_price_of, g_price_of, kp_price_of, b_price_of, G_price_of⟩ := (ok_price_of (P := P) (w := w) (K := K) (mg := mg) (base := base) T).ex
  obtain ⟨f_why_not, fd_why_not, g_why_not, kp_why_not, b_why_not, G_why_not⟩ := (ok_why_not (P := P) (w := w) (K := K) (mg := mg) (base := base) T).ex
  refine ⟨f, fd, g, F.kp, F.bindsN (fun _ _ _ _ _ _ us hl => match us, hl with | [_, _, _], _ => rfl), F.ok sc_gone (fun vs H Q E h => spZ_len (len_gone) (K := K) vs H Q E h) (fun cdv A outer s H vs Q E hr h => ?_)⟩
  have hu64 : (A.deeper (envOfC "gone" (defScope s_gone) s.heap.objs.size f cdv)).units + 64 < cLine := hr.units
  have hu : (A.deeper (envOfC "gone" (defScope s_gone) s.heap.objs.size f cdv)).units + 1 < cLine := by omega
  obtain ⟨A0, Zd0, ds, R, hf, hi, hp0, k⟩ := h
  refine ⟨_, PSs.nox ((pss_cons (ps_set (i := 3) sc_gone.nd rfl (Or.inl rfl) pe_int)
      (pss_cons (ps_for PassesOwn.never rfl (pi_enumK (K := K) rfl (by rfl) T.z_enumerate (pa_cons (pv 1) pa_nil)) (pg_tupK (K := K) (n := 2) rfl (by rfl) (pgs_cons (pg_name (i := 4) sc_gone.nd rfl (Or.inl rfl)) (pgs_cons (pg_name (i := 5) sc_gone.nd rfl (Or.inl rfl)) pgs_nil))) (pss_cons (ps_set (i := 6) sc_gone.nd rfl (Or.inl rfl) (pe_call G_why_not (hr.mono (by decide)) rfl g_why_not kp_why_not b_why_not .nil pass0 (pa_cons (pv 0) (pa_cons (pe_strL (l := []) (by decide +kernel)) (pa_cons (pv 5) pa_nil)))))
      (pss_cons (ps_if (pt_cmpR (op_neK (K := K) rfl hu64) (pv 6) (pe_strL (l := []) (by decide +kernel)) (nomark _)) (pss_one ps_never) pss_nil)
      (pss_cons (ps_aug (i := 3) sc_gone.nd rfl (Or.inl rfl) (pe_call G_price_of (hr.mono (by decide)) rfl g_price_of kp_price_of b_price_of .nil pass0 (pa_cons (pv 2) (pa_cons (pe_ix (ix_K (K := K) rfl) (pv 0) (pe_ix (ix_K (K := K) rfl) (pv 5) pe_int (fun _ _ => rfl)) (fun _ _ => rfl)) pa_nil))) ip_addZ)
      (pss_one (ps_set (i := 0) sc_gone.nd rfl (Or.inl rfl) (pe_call G_behind (hr.mono (by decide)) rfl g_behind kp_behind b_behind .nil pass0 (pa_cons (pv 0) (pa_cons (pv 5) pa_nil)))))))))
      (pss_one (ps_ret (pe_tupX (pa_cons (pv 0) (pa_cons (pv 3) pa_nil)))))))), ?_⟩
  refine z_run (n := 4) hf hi ?_ k (cs_seq (cs_set (i := 3) ce_int)
      (cs_seq (cs_for (vs := [4, 5]) (ci_enumL (ce_var 1)) (cg_tup (cgs_cons (cg_name (by decide)) (cgs_cons (cg_name (by decide)) cgs_nil))) (cs_seq (cs_set (i := 6) (ce_call (ca_cons (ce_var 0) (ca_cons ce_str (ca_cons (ce_var 5) ca_nil))) pu_why_not))
      (cs_seq (cs_if (ct_test (ce_op (co_s 6) (co_e ce_str) z_ne)) cs_never cs_next)
      (cs_seq (cs_aug (i := 3) (ce_call (ca_cons (ce_var 2) (ca_cons (ce_op (co_s 0) (co_e (ce_op (co_s 5) (co_e ce_int) z_ix)) z_ix) ca_nil)) pu_price_of) z_ipadd)
      (cs_set (i := 0) (ce_call (ca_cons (ce_var 0) (ca_cons (ce_var 5) ca_nil)) pu_behind))))))
      (cs_ret (ce_tup (ca_cons (ce_var 0) (ca_cons (ce_var 3) ca_nil)))))) ?_
  · rw [len_gone ds R hp0]; rfl
  clear hf hi k
  clear hr hu64 hu G_behind b_behind kp_behind g_behind G_price_of b_price_of kp_price_of g_price_of G_why_not b_why_not kp_why_not g_why_not
  obtain ⟨row, ps, ts, d, rfl, hr, hd, hp, hg, hl, k⟩ := hp0
  walk_at "z"
  walk_at "for"
  rw [enumD_map]
  refine for_l ts.zipIdx _ (fun i s => ∃ x y z, s = [.fz (.str (runM row (ts.take i))), .fz (.lst (ts.map dPr)), .fz d, .fz (.int ((costM ps row (ts.take i) : Nat) : Int)), x, y, z] ∧ RowOk (runM row (ts.take i))) rfl ⟨_, _, _, rfl, hr⟩ ?_ ?_
  · rintro i q s hi ⟨x, y, z, rfl, ok⟩
    obtain ⟨n, q, rfl, hq⟩ : ∃ n q', q = (q', n) ∧ ts[i]? = some q' := by
      rw [List.getElem?_zipIdx] at hi
      cases e : ts[i]? with
      | none => rw [e] at hi; cases hi
      | some q' =>
        rw [e] at hi
        cases hi
        exact ⟨_, q', rfl, rfl⟩
    have hw := goesM_more hg hq
    obtain ⟨w1, w2, w3, _⟩ := whyM_iff.mp hw
    have e1 : ts.take (i + 1) = ts.take i ++ [q] := by
      rw [List.take_add_one, hq]; rfl
    have hrm : runM row (ts.take (i + 1)) = turnM (runM row (ts.take i)) q.1 q.2 := runM_more hq
    have ok2 : RowOk (runM row (ts.take (i + 1))) := by
      rw [hrm]
      refine ⟨by rw [turnM_len (by omega) w2]; exact ok.1, by rw [turnM_len (by omega) w2]; exact ok.2.1, fun c hc => ok.2.2 c (turnM_mem (by omega) hc)⟩
    have hc2 : costM ps row (ts.take (i + 1)) = costM ps row (ts.take i) + priceM ps ((runM row (ts.take i)).getD q.1 0) := by rw [e1, costM_snoc]
    rw [hrm] at ok2 ⊢
    rw [hc2]
    generalize runM row (ts.take i) = r at ok ok2 w1 w2 w3 hw
    generalize costM ps row (ts.take i) = cst
    have okl := ok.2.1
    unfold dPr
    walk_at "z"
    refine ⟨r, [], _, _, rfl, by omega, ?_⟩
    rw [hw]
    walk_at "z"
    refine zNe_same rfl ?_
    walk_at "z"
    refine zIx_s (k := q.1) (by omega) (by omega) (.inl rfl) fun ch hch => ?_
    have ec : r.getD q.1 0 = ch := by rw [List.getD_eq_getElem?_getD, hch]; rfl
    refine ⟨ps, d, ch, rfl, hd, hp, ok.2.2 ch (List.mem_of_getElem? hch), ?_⟩
    rw [ec]
    walk_at "z"
    refine ⟨r, _, _, rfl, by omega, w2, by omega, ?_⟩
    walk_at "z"
    exact ⟨_, _, _, by rw [Int.natCast_add], ok2⟩
  · rintro s ⟨x, y, z, rfl, ok⟩
    rw [List.length_zipIdx, List.take_length]
    walk_at "z"
    exact k
theorem pu_gone {E : XK} : PureOf (spZ pf_gone) pf_gone E := pure_spZ
abbrev N_judged : List Str := ["one", "other", "some", "prices", "row", "price"]
theorem sc_judged : FnScope N_judged ["one", "other", "some", "prices"] (defScope s_judged) := ⟨rfl, rfl, rfl, by decide +kernel, rfl, by decide +kernel, by decide +kernel⟩
def pf_judged : PF := fun ds R => ∃ (row other ps : List Nat) (ts : List (Nat × Nat)) (d : Dt), ds = [.str row, .str other, .lst (ts.map dPr), d] ∧ RowOk row ∧ RowOk other ∧ PrD ps d ∧ PriceOk ps ∧ goesM [] row ts ∧ ts.length ≤ 1000 ∧ R false (if runM row ts = other then .int ((costM ps row ts : Nat) : Int) else .non)
theorem len_judged : ∀ ds R, pf_judged ds R → ds.length = 4 := by
  intro ds R h
  (repeat (first | (obtain ⟨e, _⟩ := h; exact congrArg List.length e) | (obtain ⟨_, h⟩ := h)))
theorem ok_judged {P : Program} {w : World} {K : PySem.W.Frag} {mg : Str → Option Value} {base : Heap} (T : Txt K mg) : Has P w K mg base CX0 4 "judged" ["one", "other", "some", "prices"] (spZ pf_judged) := by
  obtain ⟨f, fd, g, F⟩ := T.f_judged
  obtain ⟨f_gone, fd_gone, g_gone, kp_gone, b_gone, G_gone⟩ := (ok_gone (P := P) (w := w) (K := K) (mg := mg) (base := base) T).ex
  obtain ⟨f_need_prices, fd_need_prices, g_need_prices, kp_need_prices, b_need_prices, G_need_prices⟩ := (ok_need_prices (P := P) (w := w) (K := K) (mg := mg) (base := base) T).ex
  obtain ⟨f_need_row, fd_need_row, g_need_row, kp_need_row, b_need_row, G_need_row⟩ := (ok_need_row (P := P) (w := w) (K := K) (mg := mg) (base := base) T).ex
  refine ⟨f, fd, g, F.kp, F.bindsN (fun _ _ _ _ _ _ us hl => match us, hl with | [_, _, _, _], _ => rfl), F.ok sc_judged (fun vs H Q E h => spZ_len (len_judged) (K := K) vs H Q E h) (fun cdv A outer s H vs Q E hr h => ?_)⟩
  have hu64 : (A.deeper (envOfC "judged" (defScope s_judged) s.heap.objs.size f cdv)).units + 64 < cLine := hr.units
  have hu : (A.deeper (envOfC "judged" (defScope s_judged) s.heap.objs.size f cdv)).units + 1 < cLine := by omega
  obtain ⟨A0, Zd0, ds, R, hf, hi, hp0, k⟩ := h
  refine ⟨_, PSs.nox ((pss_cons (ps_expr (pe_call G_need_row (hr.mono (by decide)) rfl g_need_row kp_need_row b_need_row .nil pass0 (pa_cons (pv 0) pa_nil)))
      (pss_cons (ps_expr (pe_call G_need_row (hr.mono (by decide)) rfl g_need_row kp_need_row b_need_row .nil pass0 (pa_cons (pv 1) pa_nil)))
      (pss_cons (ps_expr (pe_call G_need_prices (hr.mono (by decide)) rfl g_need_prices kp_need_prices b_need_prices .nil pass0 (pa_cons (pv 3) pa_nil)))
      (pss_cons (ps_asg (pe_call G_gone (hr.mono (by decide)) rfl g_gone kp_gone b_gone .nil pass0 (pa_cons (pv 0) (pa_cons (pv 2) (pa_cons (pv 3) pa_nil)))) (pg_tupK (K := K) (n := 2) rfl (by rfl) (pgs_cons (pg_name (i := 4) sc_judged.nd rfl (Or.inl rfl)) (pgs_cons (pg_name (i := 5) sc_judged.nd rfl (Or.inl rfl)) pgs_nil))))
      (pss_one (ps_ret (pe_cut (pe_ifExp (pt_cmpR (op_eqK (K := K) rfl hu64) (pv 4) (pv 1) (nomark _)) (pv 5) pe_non))))))))), ?_⟩
  refine z_run (n := 2) hf hi ?_ k (cs_seq (cs_drop (ce_call (ca_cons (ce_var 0) ca_nil) pu_need_row))
      (cs_seq (cs_drop (ce_call (ca_cons (ce_var 1) ca_nil) pu_need_row))
      (cs_seq (cs_drop (ce_call (ca_cons (ce_var 3) ca_nil) pu_need_prices))
      (cs_seq (cs_asg (vs := [4, 5]) (ce_call (ca_cons (ce_var 0) (ca_cons (ce_var 2) (ca_cons (ce_var 3) ca_nil))) pu_gone) (cg_tup (cgs_cons (cg_name (by decide)) (cgs_cons (cg_name (by decide)) cgs_nil))))
      (cs_ret (ce_cut0 (ce_if (ct_test (ce_op (co_s 4) (co_s 1) z_eq)) (ce_var 5) ce_non))))))) ?_
  · rw [len_judged ds R hp0]; rfl
  clear hf hi k
  clear hr hu64 hu G_gone b_gone kp_gone g_gone G_need_prices b_need_prices kp_need_prices g_need_prices G_need_row b_need_row kp_need_row g_need_row
  obtain ⟨row, other, ps, ts, d, rfl, hr, ho, hd, hp, hg, hl, k⟩ := hp0
  obtain ⟨h1, h2, h3⟩ := id hr
  obtain ⟨o1, o2, o3⟩ := id ho
  walk_at "z"
  refine ⟨row, rfl, h1, h2, h3, ?_⟩
  walk_at "z"
  refine ⟨other, rfl, o1, o2, o3, ?_⟩
  walk_at "z"
  refine ⟨ps, d, rfl, hd, hp, ?_⟩
  walk_at "z"
  refine ⟨row, ps, ts, d, rfl, hr, hd, hp, hg, hl, ?_⟩
  walk_at "z"
  walk_at "eqs"
  by_cases e : runM row ts = other
  · rw [if_pos e] at k
    rw [decide_eq_true e]
    walk_at "z"
    exact k
  · rw [if_neg e] at k
    rw [decide_eq_false e]
    walk_at "z"
    exact k
theorem pu_judged {E : XK} : PureOf (spZ pf_judged) pf_judged E := pure_spZ
abbrev N_cost : List Str := ["row", "some", "prices"]
theorem sc_cost : FnScope N_cost ["row", "some", "prices"] (defScope s_cost) := ⟨rfl, rfl, rfl, by decide +kernel, rfl, by decide +kernel, by decide +kernel⟩
def pf_cost : PF := fun ds R => ∃ (row ps : List Nat) (ts : List (Nat × Nat)) (d : Dt), ds = [.str row, .lst (ts.map dPr), d] ∧ RowOk row ∧ PrD ps d ∧ PriceOk ps ∧ goesM [] row ts ∧ ts.length ≤ 1000 ∧ R false (.int ((costM ps row ts : Nat) : Int))
theorem len_cost : ∀ ds R, pf_cost ds R → ds.length = 3 := by
  intro ds R h
  (repeat (first | (obtain ⟨e, _⟩ := h; exact congrArg List.length e) | (obtain ⟨_, h⟩ := h)))
theorem ok_cost {P : Program} {w : World} {K : PySem.W.Frag} {mg : Str → Option Value} {base : Heap} (T : Txt K mg) : Has P w K mg base CX0 4 "cost" ["row", "some", "prices"] (spZ pf_cost) := by
  obtain ⟨f, fd, g, F⟩ := T.f_cost
  obtain ⟨f_gone, fd_gone, g_gone, kp_gone, b_gone, G_gone⟩ := (ok_gone (P := P) (w := w) (K := K) (mg := mg) (base := base) T).ex
  obtain ⟨f_need_prices, fd_need_prices, g_need_prices, kp_need_prices, b_need_prices, G_need_prices⟩ := (ok_need_prices (P := P) (w := w) (K := K) (mg := mg) (base := base) T).ex
  obtain ⟨f_need_row, fd_need_row, g_need_row, kp_need_row, b_need_row, G_need_row⟩ := (ok_need_row (P := P) (w := w) (K := K) (mg := mg) (base := base) T).ex
  refine ⟨f, fd, g, F.kp, F.bindsN (fun _ _ _ _ _ _ us hl => match us, hl with | [_, _, _], _ => rfl), F.ok sc_cost (fun vs H Q E h => spZ_len (len_cost) (K := K) vs H Q E h) (fun cdv A outer s H vs Q E hr h => ?_)⟩
  have hu64 : (A.deeper (envOfC "cost" (defScope s_cost) s.heap.objs.size f cdv)).units + 64 < cLine := hr.units
  have hu : (A.deeper (envOfC "cost" (defScope s_cost) s.heap.objs.size f cdv)).units + 1 < cLine := by omega
  obtain ⟨A0, Zd0, ds, R, hf, hi, hp0, k⟩ := h
  refine ⟨_, PSs.nox ((pss_cons (ps_expr (pe_call G_need_row (hr.mono (by decide)) rfl g_need_row kp_need_row b_need_row .nil pass0 (pa_cons (pv 0) pa_nil)))
      (pss_cons (ps_expr (pe_call G_need_prices (hr.mono (by decide)) rfl g_need_prices kp_need_prices b_need_prices .nil pass0 (pa_cons (pv 2) pa_nil)))
      (pss_one (ps_ret (pe_ix (ix_K (K := K) rfl) (pe_call G_gone (hr.mono (by decide)) rfl g_gone kp_gone b_gone .nil pass0 (pa_cons (pv 0) (pa_cons (pv 1) (pa_cons (pv 2) pa_nil)))) pe_int (fun _ _ => rfl))))))), ?_⟩
  refine z_run (n := 0) hf hi ?_ k (cs_seq (cs_drop (ce_call (ca_cons (ce_var 0) ca_nil) pu_need_row))
      (cs_seq (cs_drop (ce_call (ca_cons (ce_var 2) ca_nil) pu_need_prices))
      (cs_ret (ce_op (co_e (ce_call (ca_cons (ce_var 0) (ca_cons (ce_var 1) (ca_cons (ce_var 2) ca_nil))) pu_gone)) (co_e ce_int) z_ix)))) ?_
  · rw [len_cost ds R hp0]; rfl
  clear hf hi k
  clear hr hu64 hu G_gone b_gone kp_gone g_gone G_need_prices b_need_prices kp_need_prices g_need_prices G_need_row b_need_row kp_need_row g_need_row
  obtain ⟨row, ps, ts, d, rfl, hr, hd, hp, hg, hl, k⟩ := hp0
  obtain ⟨h1, h2, h3⟩ := id hr
  walk_at "z"
  refine ⟨row, rfl, h1, h2, h3, ?_⟩
  walk_at "z"
  refine ⟨ps, d, rfl, hd, hp, ?_⟩
  walk_at "z"
  refine ⟨row, ps, ts, d, rfl, hr, hd, hp, hg, hl, ?_⟩
  walk_at "z"
  exact k
theorem pu_cost {E : XK} : PureOf (spZ pf_cost) pf_cost E := pure_spZ
theorem inM_range (row : List Nat) : (List.range ((row.length : Int) - 1 - 1).toNat).map (fun k : Nat => Dt.int (1 + (k : Int))) = (inM row).map fun i : Nat => .int (i : Int) := by
  unfold inM
  rw [List.range'_eq_map_range, List.map_map, show ((row.length : Int) - 1 - 1).toNat = row.length - 2 by omega]
  refine List.map_congr_left fun i _ => ?_
  show Dt.int (1 + (i : Int)) = .int ((1 + i : Nat) : Int)
  rw [Int.natCast_add]; rfl
theorem remM_more {α : Type} [BEq α] {A G : List α} {g : α} {j : Nat} (h : G[j]? = some g) : remM A (G.take (j + 1)) = (remM A (G.take j)).erase g := by
  rw [List.take_add_one, h]
  unfold remM
  rw [List.foldl_append]
  rfl
abbrev N__law_floor : List Str := ["_law_one", "_law_other", "_law_prices_here", "_law_total", "_law_sign", "_law_mine", "_law_k", "_law_yours", "_law_pair"]
theorem sc__law_floor : FnScope N__law_floor ["_law_one", "_law_other", "_law_prices_here"] (defScope s__law_floor) := ⟨rfl, rfl, rfl, by decide +kernel, rfl, by decide +kernel, by decide +kernel⟩
def pf__law_floor : PF := fun ds R => ∃ (one other ps : List Nat) (d : Dt), ds = [.str one, .str other, d] ∧ RowOk one ∧ RowOk other ∧ PrD ps d ∧ PriceOk ps ∧ R false (.int ((floorM one other ps : Nat) : Int))
theorem len__law_floor : ∀ ds R, pf__law_floor ds R → ds.length = 3 := by
  intro ds R h
  (repeat (first | (obtain ⟨e, _⟩ := h; exact congrArg List.length e) | (obtain ⟨_, h⟩ := h)))
theorem ok__law_floor {P : Program} {w : World} {K : PySem.W.Frag} {mg : Str → Option Value} {base : Heap} (T : Txt K mg) : Has P w K mg base CX0 1 "_law_floor" ["_law_one", "_law_other", "_law_prices_here"] (spZ pf__law_floor) := by
  obtain ⟨f, fd, g, F⟩ := T.f__law_floor
  refine ⟨f, fd, g, F.kp, F.bindsN (fun _ _ _ _ _ _ us hl => match us, hl with | [_, _, _], _ => rfl), F.ok sc__law_floor (fun vs H Q E h => spZ_len (len__law_floor) (K := K) vs H Q E h) (fun cdv A outer s H vs Q E hr h => ?_)⟩
  have hu64 : (A.deeper (envOfC "_law_floor" (defScope s__law_floor) s.heap.objs.size f cdv)).units + 64 < cLine := hr.units
  have hu : (A.deeper (envOfC "_law_floor" (defScope s__law_floor) s.heap.objs.size f cdv)).units + 1 < cLine := by omega
  obtain ⟨A0, Zd0, ds, R, hf, hi, hp0, k⟩ := h
  refine ⟨_, PSs.nox ((pss_cons (ps_set (i := 3) sc__law_floor.nd rfl (Or.inl rfl) pe_int)
      (pss_cons (ps_for PassesOwn.never rfl (pi_anyK (K := K) rfl (pe_strL (l := [97, 98, 99, 100, 101, 102, 103, 104]) (by decide +kernel))) (pg_name (i := 4) sc__law_floor.nd rfl (Or.inr rfl)) (pss_cons (ps_setLc (i := 5) (own := [("_law_k", 6)]) rfl sc__law_floor.nd rfl rfl (sw_true rfl rfl rfl (by decide +kernel)) (pi_range2 (by rfl) T.z_range (pa_cons pe_int (pa_cons (pe_op op_sub (pe_callB (call_lenK (K := K) rfl) (by rfl) T.z_len PySem.boot_len (pa_cons (pv 0) pa_nil)) pe_int) pa_nil))) (blkOk_by (own := [("_law_k", 6)]) (N := N__law_floor) (sc := defScope s__law_floor) (by decide +kernel)) (fun _ _ _ _ _ => (pg_name (i := 6) sc__law_floor.nd rfl (Or.inl rfl))) (fun _ _ _ _ _ => (pts_cut (pts_one (pt_cmpR (op_eqK (K := K) rfl hu64) (pe_ix (ix_K (K := K) rfl) (pv 0) (pv 6) (fun _ _ => rfl)) (pv 4) (nomark _))))) (fun _ _ _ _ _ => (pe_cut (pe_bmK (K := K) rfl PySem.F.plainAttrs_str PySem.F.slot_str_join PySem.F.type_str_join (mt_joinK (K := K) rfl) (pe_strL (l := []) (by decide +kernel)) (pa_cons (pe_callB (cr_sortA (K := K) rfl rfl hu64) (by rfl) T.z_sorted (by decide +kernel) (pa_cons (pe_op op_addZ (pe_ix (ix_K (K := K) rfl) (pv 0) (pe_op op_sub (pv 6) pe_int) (fun _ _ => rfl)) (pe_ix (ix_K (K := K) rfl) (pv 0) (pe_op op_addZ (pv 6) pe_int) (fun _ _ => rfl))) pa_nil)) pa_nil)))))
      (pss_cons (ps_setLc (i := 7) (own := [("_law_k", 6)]) rfl sc__law_floor.nd rfl rfl (sw_true rfl rfl rfl (by decide +kernel)) (pi_range2 (by rfl) T.z_range (pa_cons pe_int (pa_cons (pe_op op_sub (pe_callB (call_lenK (K := K) rfl) (by rfl) T.z_len PySem.boot_len (pa_cons (pv 1) pa_nil)) pe_int) pa_nil))) (blkOk_by (own := [("_law_k", 6)]) (N := N__law_floor) (sc := defScope s__law_floor) (by decide +kernel)) (fun _ _ _ _ _ => (pg_name (i := 6) sc__law_floor.nd rfl (Or.inl rfl))) (fun _ _ _ _ _ => (pts_cut (pts_one (pt_cmpR (op_eqK (K := K) rfl hu64) (pe_ix (ix_K (K := K) rfl) (pv 1) (pv 6) (fun _ _ => rfl)) (pv 4) (nomark _))))) (fun _ _ _ _ _ => (pe_cut (pe_bmK (K := K) rfl PySem.F.plainAttrs_str PySem.F.slot_str_join PySem.F.type_str_join (mt_joinK (K := K) rfl) (pe_strL (l := []) (by decide +kernel)) (pa_cons (pe_callB (cr_sortA (K := K) rfl rfl hu64) (by rfl) T.z_sorted (by decide +kernel) (pa_cons (pe_op op_addZ (pe_ix (ix_K (K := K) rfl) (pv 1) (pe_op op_sub (pv 6) pe_int) (fun _ _ => rfl)) (pe_ix (ix_K (K := K) rfl) (pv 1) (pe_op op_addZ (pv 6) pe_int) (fun _ _ => rfl))) pa_nil)) pa_nil)))))
      (pss_cons (ps_for PassesOwn.never rfl (pi_anyK (K := K) rfl (pv 7)) (pg_name (i := 8) sc__law_floor.nd rfl (Or.inl rfl)) (pss_one (ps_cut (ps_if (pt_cmpR (op_inK (K := K) rfl) (pv 8) (pv 5) (by rfl)) (pss_one (ps_expr (pe_bmK (K := K) rfl PySem.F.plainAttrs_list PySem.F.slot_list_remove PySem.F.type_list_remove mt_remV (pv 5) (pa_cons (pv 8) pa_nil)))) pss_nil))))
      (pss_one (ps_set (i := 3) sc__law_floor.nd rfl (Or.inl rfl) (pe_op op_addZ (pv 3) (pe_op op_mulZ (pe_op op_fdivN (pe_op op_addZ (pe_callB (call_lenK (K := K) rfl) (by rfl) T.z_len PySem.boot_len (pa_cons (pv 5) pa_nil)) pe_int) pe_int) (pe_ix (ix_K (K := K) rfl) (pv 2) (pe_bmK (K := K) rfl PySem.F.plainAttrs_str PySem.F.slot_str_index PySem.F.type_str_index mt_idxS (pe_strL (l := [97, 98, 99, 100, 101, 102, 103, 104]) (by decide +kernel)) (pa_cons (pv 4) pa_nil)) (fun _ _ => rfl))))))))))
      (pss_one (ps_ret (pv 3)))))), ?_⟩
  refine z_run (n := 6) hf hi ?_ k (cs_seq (cs_set (i := 3) ce_int)
      (cs_seq (cs_for (vs := [4]) (ci_any ce_str) (cg_name (by decide)) (cs_seq (cs_set (i := 5) (ce_lc (vs := [6]) (ks := [0, 4]) (ci_rng2 ce_int (ce_op (co_e (ce_cb1 (co_s 0) z_len)) (co_e ce_int) z_sub)) (cg_name (by decide)) (ct_cut0 (ct_test (ce_op (co_e (ce_op (co_s 0) (co_s 6) z_ix)) (co_s 4) z_eq))) (ce_cut0 (ce_join ce_str (co_e (ce_cb1 (co_e (ce_op (co_e (ce_op (co_s 0) (co_e (ce_op (co_s 6) (co_e ce_int) z_sub)) z_ix)) (co_e (ce_op (co_s 0) (co_e (ce_op (co_s 6) (co_e ce_int) z_add)) z_ix)) z_add)) z_sortA))))))
      (cs_seq (cs_set (i := 7) (ce_lc (vs := [6]) (ks := [1, 4]) (ci_rng2 ce_int (ce_op (co_e (ce_cb1 (co_s 1) z_len)) (co_e ce_int) z_sub)) (cg_name (by decide)) (ct_cut0 (ct_test (ce_op (co_e (ce_op (co_s 1) (co_s 6) z_ix)) (co_s 4) z_eq))) (ce_cut0 (ce_join ce_str (co_e (ce_cb1 (co_e (ce_op (co_e (ce_op (co_s 1) (co_e (ce_op (co_s 6) (co_e ce_int) z_sub)) z_ix)) (co_e (ce_op (co_s 1) (co_e (ce_op (co_s 6) (co_e ce_int) z_add)) z_ix)) z_add)) z_sortA))))))
      (cs_seq (cs_for (vs := [8]) (ci_any (ce_var 7)) (cg_name (by decide)) (cs_cut0 (cs_if (ct_test (ce_op (co_s 8) (co_s 5) z_in)) (cs_drop (ce_rem (k := 5) (ce_var 8))) cs_next)))
      (cs_set (i := 3) (ce_op (co_s 3) (co_e (ce_op (co_e (ce_op (co_e (ce_op (co_e (ce_cb1 (co_s 5) z_len)) (co_e ce_int) z_add)) (co_e ce_int) z_div)) (co_e (ce_op (co_s 2) (co_e (ce_str1 z_idxS ce_str (co_s 4))) z_ix)) z_mulZ)) z_add))))))
      (cs_ret (ce_var 3)))) ?_
  · rw [len__law_floor ds R hp0]; rfl
  clear hf hi k
  clear hr hu64 hu
  obtain ⟨one, other, ps, d, rfl, hr, ho, hd, hp, k⟩ := hp0
  have l1 := hr.2.1
  have l2 := ho.2.1
  walk_at "z"
  walk_at "for"
  refine for_l abcS (fun c => .str [c]) (fun i s => ∃ x4 x5 x6 x7 x8, s = [.fz (.str one), .fz (.str other), .fz d, .fz (.int ((((abcS.take i).map (floorT one other ps)).sum : Nat) : Int)), x4, x5, x6, x7, x8]) rfl ⟨_, _, _, _, _, rfl⟩ ?_ ?_
  · rintro i c s hc ⟨x4, x5, x6, x7, x8, rfl⟩
    have hcm := List.mem_of_getElem? hc
    walk_at "z"
    walk_at "lc"
    refine lc_fm (inM one) (fun i : Nat => .int (i : Int)) (fun i => decide ((passW one i).1 = c)) (fun i => .str (passW one i).2) (inM_range one) (by unfold inM; rw [List.length_range']; omega) ?_ ?_
    · intro n j acc G hi hG
      obtain ⟨i1, i2⟩ := inM_mem.mp (List.mem_of_getElem? hi)
      walk_at "z"
      refine zIx_s (k := j) (by omega) (by omega) (.inl rfl) fun x hx => ?_
      have ex : one.getD j 0 = x := by rw [List.getD_eq_getElem?_getD, hx]; rfl
      have e1 : (passW one j).1 = x := ex
      rw [e1] at hG
      walk_at "z"
      by_cases e : x = c
      · rw [decide_eq_true e] at hG ⊢
        rw [if_pos rfl] at hG ⊢
        walk_at "z"
        refine zIx_s (k := j - 1) (by omega) (by omega) (.inl (by omega)) fun y hy => ?_
        walk_at "z"
        refine zIx_s (k := j + 1) (by omega) (by omega) (.inl (by omega)) fun z hz => ?_
        have e2 : (passW one j).2 = pairM y z := by
          unfold passW
          rw [List.getD_eq_getElem?_getD, List.getD_eq_getElem?_getD (l := one) (i := j - 1), List.getD_eq_getElem?_getD (l := one) (i := j + 1), hy, hz]
          rfl
        rw [e2] at hG
        walk_at "zz"
        rw [show ([[y], [z]] : List (List Nat)) = [y, z].map fun c => [c] from rfl, sortT_signs, sortN_pair, List.map_map]
        refine zJoin_signs (m := pairM y z) (by unfold pairM; split <;> simp) ?_
        walk_at "z"
        exact hG
      · rw [decide_eq_false e] at hG ⊢
        rw [if_neg (by decide), List.append_nil] at hG
        rw [if_neg (by decide)]
        exact hG
    rw [show ((inM one).filter fun i => decide ((passW one i).1 = c)).map (fun i => Dt.str (passW one i).2) = (passM one c).map .str by
        unfold passM
        rw [List.filter_map, List.map_map, List.map_map]
        rfl]
    walk_at "z"
    walk_at "lc"
    refine lc_fm (inM other) (fun i : Nat => .int (i : Int)) (fun i => decide ((passW other i).1 = c)) (fun i => .str (passW other i).2) (inM_range other) (by unfold inM; rw [List.length_range']; omega) ?_ ?_
    · intro n j acc G hi hG
      obtain ⟨i1, i2⟩ := inM_mem.mp (List.mem_of_getElem? hi)
      walk_at "z"
      refine zIx_s (k := j) (by omega) (by omega) (.inl rfl) fun x hx => ?_
      have ex : other.getD j 0 = x := by rw [List.getD_eq_getElem?_getD, hx]; rfl
      have e1 : (passW other j).1 = x := ex
      rw [e1] at hG
      walk_at "z"
      by_cases e : x = c
      · rw [decide_eq_true e] at hG ⊢
        rw [if_pos rfl] at hG ⊢
        walk_at "z"
        refine zIx_s (k := j - 1) (by omega) (by omega) (.inl (by omega)) fun y hy => ?_
        walk_at "z"
        refine zIx_s (k := j + 1) (by omega) (by omega) (.inl (by omega)) fun z hz => ?_
        have e2 : (passW other j).2 = pairM y z := by
          unfold passW
          rw [List.getD_eq_getElem?_getD, List.getD_eq_getElem?_getD (l := other) (i := j - 1), List.getD_eq_getElem?_getD (l := other) (i := j + 1), hy, hz]
          rfl
        rw [e2] at hG
        walk_at "zz"
        rw [show ([[y], [z]] : List (List Nat)) = [y, z].map fun c => [c] from rfl, sortT_signs, sortN_pair, List.map_map]
        refine zJoin_signs (m := pairM y z) (by unfold pairM; split <;> simp) ?_
        walk_at "z"
        exact hG
      · rw [decide_eq_false e] at hG ⊢
        rw [if_neg (by decide), List.append_nil] at hG
        rw [if_neg (by decide)]
        exact hG
    rw [show ((inM other).filter fun i => decide ((passW other i).1 = c)).map (fun i => Dt.str (passW other i).2) = (passM other c).map .str by
        unfold passM
        rw [List.filter_map, List.map_map, List.map_map]
        rfl]
    walk_at "z"
    walk_at "for"
    have p1 := passM_len one c
    have p2 := passM_len other c
    refine for_l (passM other c) .str (fun j s => ∃ x6 x8, s = [.fz (.str one), .fz (.str other), .fz d, .fz (.int ((((abcS.take i).map (floorT one other ps)).sum : Nat) : Int)), .fz (.str [c]), .ow (.lst ((remM (passM one c) ((passM other c).take j)).map .str)), x6, .fz (.lst ((passM other c).map .str)), x8]) rfl ⟨_, _, rfl⟩ ?_ ?_
    · rintro j g s hg ⟨x6, x8, rfl⟩
      rw [remM_more hg]
      walk_at "z"
      refine zIn_strs ?_
      by_cases hm : g ∈ remM (passM one c) ((passM other c).take j)
      · rw [decide_eq_true hm]
        walk_at "z"
        exact ⟨_, rfl, hm, _, _, rfl⟩
      · rw [decide_eq_false hm, List.erase_of_not_mem hm]
        walk_at "z"
        exact ⟨_, _, rfl⟩
    · rintro s ⟨x6, x8, rfl⟩
      rw [List.take_length]
      have hx : ∀ c ∈ abcS, abcS[c - 97]? = some c ∧ c - 97 < 8 ∧ ∀ m, m < c - 97 → abcS[m]? ≠ some c := by decide
      obtain ⟨x1, x2, x3⟩ := hx c hcm
      have hpc : priceM ps c ≤ 99 := priceM_le hp
      have e1 : (((dM (passM one c) (passM other c) : Nat) : Int) + 1).fdiv 2 = (((dM (passM one c) (passM other c) + 1) / 2 : Nat) : Int) := by
        rw [Int.fdiv_eq_ediv_of_nonneg _ (by omega)]
        omega
      have e2 : (((abcS.take (i + 1)).map (floorT one other ps)).sum : Nat) = ((abcS.take i).map (floorT one other ps)).sum + floorT one other ps c := by
        rw [List.take_add_one, hc, List.map_append, List.sum_append_nat]
        rfl
      rw [e2]
      walk_at "z"
      refine ⟨⟨by decide, by decide⟩, ?_⟩
      rcases hd with rfl | rfl <;>
      · walk_at "z"
        rw [zIdxS_s]
        refine ⟨c - 97, x1, x3, ?_⟩
        refine zIx_t (k := c - 97) (by rw [List.length_map, hp.1]; exact x2) (.inl rfl) fun d hd => ?_
        rw [price_at hd]
        rw [List.length_map, show ((remM (passM one c) (passM other c)).length : Int) = ((dM (passM one c) (passM other c) : Nat) : Int) from rfl, e1]
        walk_at "z"
        refine ⟨.inr ⟨by omega, by omega⟩, ?_⟩
        walk_at "z"
        exact ⟨_, _, _, _, _, by rw [Int.natCast_add]; unfold floorT; rw [Int.natCast_mul]⟩
  · rintro s ⟨x4, x5, x6, x7, x8, rfl⟩
    walk_at "z"
    exact k
theorem pu__law_floor {E : XK} : PureOf (spZ pf__law_floor) pf__law_floor E := pure_spZ
abbrev N__law_alike : List Str := ["_law_found", "_law_due", "_law_k"]
theorem sc__law_alike : FnScope N__law_alike ["_law_found", "_law_due"] (defScope s__law_alike) := ⟨rfl, rfl, rfl, by decide +kernel, rfl, by decide +kernel, by decide +kernel⟩
def spR__law_alike (K : PySem.W.Frag) (n : Nat) : Sp := fun vs H Q _ => match n with
  | 0 => False
  | n + 1 => ∃ (x y : V) (d : PyData), vs = [x, y] ∧ alk (n + 1) d = true ∧ Rp H x d ∧ Rp H y d ∧ ∀ H', Ex H H' → Q (.bl true) H'
theorem okR__law_alike {P : Program} {w : World} {K : PySem.W.Frag} {mg : Str → Option Value} {base : Heap} (T : Txt K mg) {f__law_alike : Addr} {fd__law_alike : FuncData} (g__law_alike : mg "_law_alike" = some (.ref f__law_alike)) (F : FunD K "_law_alike" "_law_alike" (defArgs s__law_alike) (defBody s__law_alike) (defScope s__law_alike) [] [] f__law_alike fd__law_alike) : ∀ n, FnOk P w K mg base CX0 (n + 1) f__law_alike fd__law_alike ["_law_found", "_law_due"] (spR__law_alike K n) := by
  have b__law_alike := F.bindsN (ps := ["_law_found", "_law_due"]) (fun _ _ _ _ _ _ us hl => match us, hl with | [_, _], _ => rfl)
  have kp__law_alike := F.kp
  intro n
  induction n with
  | zero => exact F.ok sc__law_alike (fun vs H Q E h => h.elim) (fun cdv A outer s H vs Q E hr h => h.elim)
  | succ n IH =>
  have G__law_alike := IH
  refine F.ok sc__law_alike (fun vs H Q E h => ?_) (fun cdv A outer s H vs Q E hr h => ?_)
  · repeat (first | (obtain ⟨e, _⟩ := h; exact congrArg List.length e) | (obtain ⟨_, h⟩ := h))
  have hu64 : (A.deeper (envOfC "_law_alike" (defScope s__law_alike) s.heap.objs.size f__law_alike cdv)).units + 64 < cLine := hr.units
  refine ⟨_, PSs.nox ((pss_cons (ps_if (pt_cmpR op_isN1 (pv 1) pe_non (nomark _)) (pss_one (ps_ret (pe_cmpR op_isN1 (pv 0) pe_non (nomark _)))) pss_nil)
      (pss_cons (ps_if (pt_val (pe_callB call_isU (by rfl) T.z_isinstance (by decide +kernel) (pa_cons (pv 1) (pa_cons (pe_bltn (v := .ty "bool") rfl T.z_bool (by decide +kernel) rfl) pa_nil)))) (pss_one (ps_ret (pe_cut (pe_and (pe_callB call_isU (by rfl) T.z_isinstance (by decide +kernel) (pa_cons (pv 0) (pa_cons (pe_bltn (v := .ty "bool") rfl T.z_bool (by decide +kernel) rfl) pa_nil))) (pe_one (pe_cmpR (op_eqK (K := K) rfl hu64) (pv 0) (pv 1) (nomark _))))))) pss_nil)
      (pss_cons (ps_if (pt_val (pe_callB call_isU (by rfl) T.z_isinstance (by decide +kernel) (pa_cons (pv 1) (pa_cons (pe_bltn (v := .ty "int") rfl T.z_int (by decide +kernel) rfl) pa_nil)))) (pss_one (ps_ret (pe_cut (pe_and (pe_callB call_isU (by rfl) T.z_isinstance (by decide +kernel) (pa_cons (pv 0) (pa_cons (pe_bltn (v := .ty "int") rfl T.z_int (by decide +kernel) rfl) pa_nil))) (pe_and (pe_not (pe_callB call_isU (by rfl) T.z_isinstance (by decide +kernel) (pa_cons (pv 0) (pa_cons (pe_bltn (v := .ty "bool") rfl T.z_bool (by decide +kernel) rfl) pa_nil)))) (pe_one (pe_cmpR (op_eqK (K := K) rfl hu64) (pv 0) (pv 1) (nomark _)))))))) pss_nil)
      (pss_cons (ps_if (pt_val (pe_callB call_isU (by rfl) T.z_isinstance (by decide +kernel) (pa_cons (pv 1) (pa_cons (pe_bltn (v := .ty "str") rfl T.z_str (by decide +kernel) rfl) pa_nil)))) (pss_one (ps_ret (pe_cut (pe_and (pe_callB call_isU (by rfl) T.z_isinstance (by decide +kernel) (pa_cons (pv 0) (pa_cons (pe_bltn (v := .ty "str") rfl T.z_str (by decide +kernel) rfl) pa_nil))) (pe_one (pe_cmpR (op_eqK (K := K) rfl hu64) (pv 0) (pv 1) (nomark _))))))) pss_nil)
      (pss_cons (ps_if (pt_cut (PW.pt (pw_or (pt_cmpR (op_neK (K := K) rfl hu64) (pe_callB call_isU (by rfl) T.z_isinstance (by decide +kernel) (pa_cons (pv 1) (pa_cons (pe_bltn (v := .ty "tuple") rfl T.z_tuple (by decide +kernel) rfl) pa_nil))) (pe_callB call_isU (by rfl) T.z_isinstance (by decide +kernel) (pa_cons (pv 0) (pa_cons (pe_bltn (v := .ty "tuple") rfl T.z_tuple (by decide +kernel) rfl) pa_nil))) (nomark _)) (pw_or1 (pt_cmpR (op_neK (K := K) rfl hu64) (pe_callB call_isU (by rfl) T.z_isinstance (by decide +kernel) (pa_cons (pv 1) (pa_cons (pe_bltn (v := .ty "list") rfl T.z_list (by decide +kernel) rfl) pa_nil))) (pe_callB call_isU (by rfl) T.z_isinstance (by decide +kernel) (pa_cons (pv 0) (pa_cons (pe_bltn (v := .ty "list") rfl T.z_list (by decide +kernel) rfl) pa_nil))) (nomark _)))))) (pss_one (ps_ret pe_bl)) pss_nil)
      (pss_cons (ps_if (pt_cmpR (op_neK (K := K) rfl hu64) (pe_callB (call_lenK (K := K) rfl) (by rfl) T.z_len PySem.boot_len (pa_cons (pv 0) pa_nil)) (pe_callB (call_lenK (K := K) rfl) (by rfl) T.z_len PySem.boot_len (pa_cons (pv 1) pa_nil)) (nomark _)) (pss_one (ps_ret pe_bl)) pss_nil)
      (pss_one (ps_ret (pe_callB (call_allK (K := K) rfl rfl) (by rfl) T.z_all (by decide +kernel) (pa_cons (pe_lc (own := [("_law_k", 2)]) rfl sc__law_alike.nd (pi_range1 (by rfl) T.z_range (pa_cons (pe_callB (call_lenK (K := K) rfl) (by rfl) T.z_len PySem.boot_len (pa_cons (pv 1) pa_nil)) pa_nil)) (blkOk_by (own := [("_law_k", 2)]) (N := N__law_alike) (sc := defScope s__law_alike) (by decide +kernel)) (fun _ _ _ _ _ => (pg_name (i := 2) sc__law_alike.nd rfl (Or.inl rfl))) (fun _ _ _ _ _ => (pts_cut pts_nil)) (fun _ _ _ _ _ => (pe_cut (pe_call G__law_alike (hr.mono (Nat.le_refl _)) rfl g__law_alike kp__law_alike b__law_alike .nil pass0 (pa_cons (pe_ix (ix_K (K := K) rfl) (pv 0) (pv 2) (fun _ _ => rfl)) (pa_cons (pe_ix (ix_K (K := K) rfl) (pv 1) (pv 2) (fun _ _ => rfl)) pa_nil)))))) pa_nil))))))))))), ?_⟩
  obtain ⟨x, y, d, rfl, hd, hx, hy, k⟩ := h
  (generalize hst : L2.start _ _ = st0; simp only [L2.start, N__law_alike, List.map_cons, List.map_nil, List.length_cons, List.length_nil, Nat.reduceAdd, Nat.reduceSub, List.replicate_succ, List.replicate_zero, List.cons_append, List.nil_append, List.append_nil] at hst; subst hst)
  cases hx with
  | non =>
    cases hy
    walk_at "go"
    exact k _ (Ex.refl _)
  | bl b =>
    cases hy
    walk_at "go"
    refine w_cutE0 ?_
    walk_at "go"
    exact k _ (Ex.refl _)
  | int i =>
    cases hy
    walk_at "go"
    refine w_cutE0 ?_
    walk_at "go"
    rw [decide_eq_true rfl]
    exact k _ (Ex.refl _)
  | str x =>
    cases hy
    walk_at "go"
    refine w_cutE0 ?_
    walk_at "go"
    rw [decide_eq_true rfl]
    exact k _ (Ex.refl _)
  | lst hx rx =>
    rename_i a xs ds
    cases hy with
    | lst hy ry =>
    rename_i b ys
    obtain ⟨hl, hd⟩ := alk_get hd
    have lx := rx.length
    have ly := ry.length
    walk_at "go"
    refine w_cutB false ?_ ?_
    · walk_at "go"
      exact ⟨rfl, rfl⟩
    walk_at "go"
    rw [decide_eq_true (show ((xs.length : Int) = ys.length) by omega)]
    walk_at "go"
    refine lcX_bl walk_range (by omega) (fun _ => true) (fun _ _ => trivial) (fun v => rfl) ?_ ?_
    · rintro i x H1 H2 Q' hi e ⟨e2, e3⟩ kk
      subst e2 e3
      walk_at "go"
      rename_i v1 h1 v2 h2
      have e0 : ((0 : Int) + (i : Int)).toNat = i := by omega
      rw [e0] at h1 h2
      obtain ⟨d, d1, d2⟩ := rx.get' h1
      obtain ⟨d', d1', d2'⟩ := ry.get' h2
      rw [d1] at d1'
      cases d1'
      have := hd d (List.mem_of_getElem? d1)
      cases n with
      | zero => cases this
      | succ n => exact ⟨_, _, d, rfl, this, d2.ex e, d2'.ex e, fun H' e' => kk _ e'⟩
    · intro p H2 hp e h2
      walk_at "go"
      refine w_all h2 ?_
      rw [all_range fun _ _ => rfl]
      exact k _ e
  | tup hx rx =>
    rename_i a xs ds
    cases hy with
    | tup hy ry =>
    rename_i b ys
    obtain ⟨hl, hd⟩ := alk_get hd
    have lx := rx.length
    have ly := ry.length
    walk_at "go"
    refine w_cutB false ?_ ?_
    · walk_at "go"
      exact ⟨rfl, rfl⟩
    walk_at "go"
    rw [decide_eq_true (show ((xs.length : Int) = ys.length) by omega)]
    walk_at "go"
    refine lcX_bl walk_range (by omega) (fun _ => true) (fun _ _ => trivial) (fun v => rfl) ?_ ?_
    · rintro i x H1 H2 Q' hi e ⟨e2, e3⟩ kk
      subst e2 e3
      walk_at "go"
      rename_i v1 h1 v2 h2
      have e0 : ((0 : Int) + (i : Int)).toNat = i := by omega
      rw [e0] at h1 h2
      obtain ⟨d, d1, d2⟩ := rx.get' h1
      obtain ⟨d', d1', d2'⟩ := ry.get' h2
      rw [d1] at d1'
      cases d1'
      have := hd d (List.mem_of_getElem? d1)
      cases n with
      | zero => cases this
      | succ n => exact ⟨_, _, d, rfl, this, d2.ex e, d2'.ex e, fun H' e' => kk _ e'⟩
    · intro p H2 hp e h2
      walk_at "go"
      refine w_all h2 ?_
      rw [all_range fun _ _ => rfl]
      exact k _ e
theorem ok__law_alike {P : Program} {w : World} {K : PySem.W.Frag} {mg : Str → Option Value} {base : Heap} (T : Txt K mg) : Has P w K mg base CX0 13 "_law_alike" ["_law_found", "_law_due"] (spR__law_alike K 12) := by
  obtain ⟨f, fd, g, F⟩ := T.f__law_alike
  exact ⟨f, fd, g, F.kp, F.bindsN (fun _ _ _ _ _ _ us hl => match us, hl with | [_, _], _ => rfl), okR__law_alike T g F 12⟩
def pf__law_alike : PF := fun ds R => ∃ d, ds = [d, d] ∧ alk 12 (toP d) = true ∧ cmpOk 60 d = true ∧ R false (.bl true)
theorem pu__law_alike {K : PySem.W.Frag} {E : XK} : PureOf (spR__law_alike K 12) pf__law_alike E := by
  rintro c L H vs ds Q R h hf ⟨d, rfl, h1, h2, hr⟩ k
  obtain ⟨v, ws, rfl, e1, v2, ws2, rfl, e2, e3⟩ := hf
  cases e3
  exact ⟨v, v2, toP d, rfl, h1, fr_rp 60 d v h2 e1, fr_rp 60 d v2 h2 e2, fun H' e => k _ _ _ _ hr (sub_bl h e _)⟩
abbrev N_law : List Str := ["_law_script", "_law_d", "_law_turn", "_law_row_here", "_law_prices_here", "_law_some", "_law_here", "_law_k", "_law_rest", "_law_due", "_law_goal", "_law_other", "_law_handed", "_law_told", "_law_wanted"]
theorem sc_law : FnScope N_law ["_law_script"] (defScope s_law) := ⟨rfl, rfl, rfl, by decide +kernel, rfl, by decide +kernel, by decide +kernel⟩
def sp_law (K : PySem.W.Frag) : Sp := fun vs H Q _ => ∃ (a : Addr) (ns : List Int), vs = [.ref a] ∧ SqL K H a (ns.map V.int) ∧ ns.length ≤ 63 ∧ IvH H ∧ ∀ H', Q (.bl true) H'
theorem ok_law {P : Program} {w : World} {K : PySem.W.Frag} {mg : Str → Option Value} {base : Heap} {f : Addr} {fd : FuncData} (T : Txt K mg) (F : FunD K "law" "law" (defArgs s_law) (defBody s_law) (defScope s_law) [] [] f fd) : FnOk P w K mg base CX0 14 f fd ["_law_script"] (sp_law K) := by
  obtain ⟨f__law_alike, fd__law_alike, g__law_alike, kp__law_alike, b__law_alike, G__law_alike⟩ := (ok__law_alike (P := P) (w := w) (K := K) (mg := mg) (base := base) T).ex
  obtain ⟨f__law_cost, fd__law_cost, g__law_cost, kp__law_cost, b__law_cost, G__law_cost⟩ := (ok__law_cost (P := P) (w := w) (K := K) (mg := mg) (base := base) T).ex
  obtain ⟨f__law_dice, fd__law_dice, g__law_dice, kp__law_dice, b__law_dice, G__law_dice⟩ := (ok__law_dice (P := P) (w := w) (K := K) (mg := mg) (base := base) T).ex
  obtain ⟨f__law_floor, fd__law_floor, g__law_floor, kp__law_floor, b__law_floor, G__law_floor⟩ := (ok__law_floor (P := P) (w := w) (K := K) (mg := mg) (base := base) T).ex
  obtain ⟨f__law_off, fd__law_off, g__law_off, kp__law_off, b__law_off, G__law_off⟩ := (ok__law_off (P := P) (w := w) (K := K) (mg := mg) (base := base) T).ex
  obtain ⟨f__law_prices, fd__law_prices, g__law_prices, kp__law_prices, b__law_prices, G__law_prices⟩ := (ok__law_prices (P := P) (w := w) (K := K) (mg := mg) (base := base) T).ex
  obtain ⟨f__law_row, fd__law_row, g__law_row, kp__law_row, b__law_row, G__law_row⟩ := (ok__law_row (P := P) (w := w) (K := K) (mg := mg) (base := base) T).ex
  obtain ⟨f__law_signs, fd__law_signs, g__law_signs, kp__law_signs, b__law_signs, G__law_signs⟩ := (ok__law_signs (P := P) (w := w) (K := K) (mg := mg) (base := base) T).ex
  obtain ⟨f__law_stirred, fd__law_stirred, g__law_stirred, kp__law_stirred, b__law_stirred, G__law_stirred⟩ := (ok__law_stirred (P := P) (w := w) (K := K) (mg := mg) (base := base) T).ex
  obtain ⟨f__law_turned, fd__law_turned, g__law_turned, kp__law_turned, b__law_turned, G__law_turned⟩ := (ok__law_turned (P := P) (w := w) (K := K) (mg := mg) (base := base) T).ex
  obtain ⟨f__law_turns, fd__law_turns, g__law_turns, kp__law_turns, b__law_turns, G__law_turns⟩ := (ok__law_turns (P := P) (w := w) (K := K) (mg := mg) (base := base) T).ex
  obtain ⟨f_cost, fd_cost, g_cost, kp_cost, b_cost, G_cost⟩ := (ok_cost (P := P) (w := w) (K := K) (mg := mg) (base := base) T).ex
  obtain ⟨f_floor, fd_floor, g_floor, kp_floor, b_floor, G_floor⟩ := (ok_floor (P := P) (w := w) (K := K) (mg := mg) (base := base) T).ex
  obtain ⟨f_judged, fd_judged, g_judged, kp_judged, b_judged, G_judged⟩ := (ok_judged (P := P) (w := w) (K := K) (mg := mg) (base := base) T).ex
  refine F.ok sc_law (fun vs H Q E h => by obtain ⟨a, ns, rfl, _⟩ := h; rfl) (fun cdv A outer s H vs Q E hr h => ?_)
  have hu64 : (A.deeper (envOfC "law" (defScope s_law) s.heap.objs.size f cdv)).units + 64 < cLine := hr.units
  have hu : (A.deeper (envOfC "law" (defScope s_law) s.heap.objs.size f cdv)).units + 1 < cLine := by omega
  obtain ⟨a, ns, rfl, ha, hn, hi, hQ⟩ := h
  refine ⟨_, PSs.nox (pss_cons (ps_set (i := 1) sc_law.nd rfl (Or.inl rfl) (pe_call G__law_dice (hr.mono (by decide)) rfl g__law_dice kp__law_dice b__law_dice .nil pass0 (pa_cons (pv 0) (pa_cons pe_int pa_nil))))
      (pss_cons (ps_for PassesOwn.never rfl (pi_range1 (by rfl) T.z_range (pa_cons pe_int pa_nil)) (pg_name (i := 2) sc_law.nd rfl (Or.inl rfl)) (pss_cons (ps_set (i := 3) sc_law.nd rfl (Or.inl rfl) (pe_call G__law_row (hr.mono (by decide)) rfl g__law_row kp__law_row b__law_row .nil pass0 (pa_cons (pv 1) (pa_cons (pe_call G__law_signs (hr.mono (by decide)) rfl g__law_signs kp__law_signs b__law_signs .nil pass0 (pa_cons (pv 1) pa_nil)) (pa_cons (pe_ix (ix_K (K := K) rfl) (pe_lstX (pa_cons pe_int (pa_cons pe_int pa_nil))) (pe_call G__law_off (hr.mono (by decide)) rfl g__law_off kp__law_off b__law_off .nil pass0 (pa_cons (pv 1) (pa_cons pe_int pa_nil))) (fun _ _ => rfl)) pa_nil)))))
      (pss_cons (ps_par3 (i := 4) (j := 5) (l := 6) (by rfl) sc_law.nd rfl rfl rfl (by decide) (by decide) (by decide) rfl rfl rfl (pa_cons (pe_call G__law_prices (hr.mono (by decide)) rfl g__law_prices kp__law_prices b__law_prices .nil pass0 (pa_cons (pv 1) pa_nil)) (pa_cons (pe_lstX pa_nil) (pa_cons (pv 3) pa_nil))) (by rfl))
      (pss_cons (ps_for PassesOwn.never rfl (pi_range1 (by rfl) T.z_range (pa_cons (pe_call G__law_off (hr.mono (by decide)) rfl g__law_off kp__law_off b__law_off .nil pass0 (pa_cons (pv 1) (pa_cons pe_int pa_nil))) pa_nil)) (pg_name (i := 7) sc_law.nd rfl (Or.inl rfl)) (pss_cons (ps_set (i := 8) sc_law.nd rfl (Or.inl rfl) (pe_call G__law_turns (hr.mono (by decide)) rfl g__law_turns kp__law_turns b__law_turns .nil pass0 (pa_cons (pv 6) (pa_cons (pe_strL (l := []) (by decide +kernel)) pa_nil))))
      (pss_one (ps_cut (ps_if (pt_cmpR (op_neK (K := K) rfl hu64) (pv 8) (pe_lstX pa_nil) (nomark _)) (pss_cons (ps_expr (pe_bmK (K := K) rfl PySem.F.plainAttrs_list PySem.F.slot_list_append PySem.F.type_list_append mt_append (pv 5) (pa_cons (pe_ix (ix_K (K := K) rfl) (pv 8) (pe_call G__law_off (hr.mono (by decide)) rfl g__law_off kp__law_off b__law_off .nil pass0 (pa_cons (pv 1) (pa_cons (pe_callB (call_lenK (K := K) rfl) (by rfl) T.z_len PySem.boot_len (pa_cons (pv 8) pa_nil)) pa_nil))) (fun _ _ => rfl)) pa_nil)))
      (pss_one (ps_set (i := 6) sc_law.nd rfl (Or.inl rfl) (pe_call G__law_turned (hr.mono (by decide)) rfl g__law_turned kp__law_turned b__law_turned .nil pass0 (pa_cons (pv 6) (pa_cons (pe_ix (ix_K (K := K) rfl) (pe_ix (ix_K (K := K) rfl) (pv 5) (pe_un un_neg pe_int) (fun _ _ => rfl)) pe_int (fun _ _ => rfl)) (pa_cons (pe_ix (ix_K (K := K) rfl) (pe_ix (ix_K (K := K) rfl) (pv 5) (pe_un un_neg pe_int) (fun _ _ => rfl)) pe_int (fun _ _ => rfl)) pa_nil))))))) pss_nil)))))
      (pss_cons (ps_asg (pe_call G__law_cost (hr.mono (by decide)) rfl g__law_cost kp__law_cost b__law_cost .nil pass0 (pa_cons (pv 5) (pa_cons (pv 3) (pa_cons (pv 4) pa_nil)))) (pg_tupK (K := K) (n := 2) rfl (by rfl) (pgs_cons (pg_name (i := 9) sc_law.nd rfl (Or.inl rfl)) (pgs_cons (pg_name (i := 10) sc_law.nd rfl (Or.inl rfl)) pgs_nil))))
      (pss_cons (ps_set (i := 11) sc_law.nd rfl (Or.inl rfl) (pe_ix (ix_K (K := K) rfl) (pe_lstX (pa_cons (pv 10) (pa_cons (pv 3) (pa_cons (pe_call G__law_stirred (hr.mono (by decide)) rfl g__law_stirred kp__law_stirred b__law_stirred .nil pass0 (pa_cons (pv 1) (pa_cons (pv 3) (pa_cons (pe_strL (l := []) (by decide +kernel)) (pa_cons pe_int pa_nil))))) pa_nil)))) (pe_call G__law_off (hr.mono (by decide)) rfl g__law_off kp__law_off b__law_off .nil pass0 (pa_cons (pv 1) (pa_cons pe_int pa_nil))) (fun _ _ => rfl)))
      (pss_cons (ps_set (i := 12) sc_law.nd rfl (Or.inl rfl) (pe_callTy (call_listK (K := K) rfl rfl) (by rfl) T.z_list (by decide +kernel) (pa_cons (pv 5) pa_nil)))
      (pss_cons (ps_set (i := 13) sc_law.nd rfl (Or.inl rfl) (pe_lstX (pa_cons (pe_call G_cost (hr.mono (by decide)) rfl g_cost kp_cost b_cost .nil pass0 (pa_cons (pv 3) (pa_cons (pv 12) (pa_cons (pv 4) pa_nil)))) (pa_cons (pe_call G_judged (hr.mono (by decide)) rfl g_judged kp_judged b_judged .nil pass0 (pa_cons (pv 3) (pa_cons (pv 11) (pa_cons (pv 12) (pa_cons (pv 4) pa_nil))))) (pa_cons (pe_call G_floor (hr.mono (by decide)) rfl g_floor kp_floor b_floor .nil pass0 (pa_cons (pv 3) (pa_cons (pv 10) (pa_cons (pv 4) pa_nil)))) pa_nil)))))
      (pss_cons (ps_set (i := 14) sc_law.nd rfl (Or.inl rfl) (pe_lstX (pa_cons (pv 9) (pa_cons (pe_cut (pe_ifExp (pt_cmpR (op_eqK (K := K) rfl hu64) (pv 11) (pv 10) (nomark _)) (pv 9) pe_non)) (pa_cons (pe_call G__law_floor (hr.mono (by decide)) rfl g__law_floor kp__law_floor b__law_floor .nil pass0 (pa_cons (pv 3) (pa_cons (pv 10) (pa_cons (pv 4) pa_nil)))) pa_nil)))))
      (pss_cons (ps_if (pt_cut (PW.pt (pw_or (pt_not (pt_val (pe_call G__law_alike (hr.mono (by decide)) rfl g__law_alike kp__law_alike b__law_alike .nil pass0 (pa_cons (pv 13) (pa_cons (pv 14) pa_nil))))) (pw_or1 (pt_cmpR (op_neK (K := K) rfl hu64) (pv 12) (pv 5) (nomark _)))))) (pss_one (ps_ret pe_bl)) pss_nil)
      (pss_one (ps_if (pt_cmpR op_gtU (pe_call G_floor (hr.mono (by decide)) rfl g_floor kp_floor b_floor .nil pass0 (pa_cons (pv 3) (pa_cons (pv 10) (pa_cons (pv 4) pa_nil)))) (pv 9) (nomark _)) (pss_one (ps_ret pe_bl)) pss_nil))))))))))))
      (pss_one (ps_ret pe_bl)))), ?_⟩
  refine w_seq (w_asg (w_callN (w_cons (w_var (v := .ref a) rfl (w_cons (w_c (w_nil (use__law_dice (ns := ns) ha hn ⟨by decide, by decide⟩ fun p H1 hp e1 h1 => w_name ?_))))))))
  refine z_law (vs := [.ref a, .ref p]) (ds := [.val (.ref a), .dice]) (n := 13) (.cons rfl (.cons ⟨p, rfl, trivial, h1⟩ .nil)) (hi.ex e1) hQ (cs_seq (cs_for (vs := [2]) (ci_rng1 ce_int) (cg_name (by decide)) (cs_seq (cs_set (i := 3) (ce_call (ca_cons (ce_var 1) (ca_cons (ce_call (ca_cons (ce_var 1) ca_nil) pu__law_signs) (ca_cons (ce_op (co_e (ce_lst (ca_cons ce_int (ca_cons ce_int ca_nil)))) (co_e (ce_call (ca_cons (ce_var 1) (ca_cons ce_int ca_nil)) pu__law_off)) z_ix) ca_nil))) pu__law_row))
      (cs_seq (cs_par3 (ce_call (ca_cons (ce_var 1) ca_nil) pu__law_prices) (ce_lst ca_nil) (ce_var 3))
      (cs_seq (cs_for (vs := [7]) (ci_rng1 (ce_call (ca_cons (ce_var 1) (ca_cons ce_int ca_nil)) pu__law_off)) (cg_name (by decide)) (cs_seq (cs_set (i := 8) (ce_call (ca_cons (ce_var 6) (ca_cons ce_str ca_nil)) pu__law_turns))
      (cs_cut0 (cs_if (ct_test (ce_op (co_s 8) (co_e (ce_lst ca_nil)) z_ne)) (cs_seq (cs_drop (ce_app (k := 5) (ce_op (co_s 8) (co_e (ce_call (ca_cons (ce_var 1) (ca_cons (ce_cb1 (co_s 8) z_len) ca_nil)) pu__law_off)) z_ix)))
      (cs_set (i := 6) (ce_call (ca_cons (ce_var 6) (ca_cons (ce_op (co_e (ce_op (co_s 5) (co_e (ce_un (co_e ce_int) z_neg)) z_ix)) (co_e ce_int) z_ix) (ca_cons (ce_op (co_e (ce_op (co_s 5) (co_e (ce_un (co_e ce_int) z_neg)) z_ix)) (co_e ce_int) z_ix) ca_nil))) pu__law_turned))) cs_next))))
      (cs_seq (cs_asg (vs := [9, 10]) (ce_call (ca_cons (ce_var 5) (ca_cons (ce_var 3) (ca_cons (ce_var 4) ca_nil))) pu__law_cost) (cg_tup (cgs_cons (cg_name (by decide)) (cgs_cons (cg_name (by decide)) cgs_nil))))
      (cs_seq (cs_set (i := 11) (ce_op (co_e (ce_lst (ca_cons (ce_var 10) (ca_cons (ce_var 3) (ca_cons (ce_call (ca_cons (ce_var 1) (ca_cons (ce_var 3) (ca_cons ce_str (ca_cons ce_int ca_nil)))) pu__law_stirred) ca_nil))))) (co_e (ce_call (ca_cons (ce_var 1) (ca_cons ce_int ca_nil)) pu__law_off)) z_ix))
      (cs_seq (cs_set (i := 12) (ce_cb1 (co_s 5) z_list))
      (cs_seq (cs_set (i := 13) (ce_lst (ca_cons (ce_call (ca_cons (ce_var 3) (ca_cons (ce_var 12) (ca_cons (ce_var 4) ca_nil))) pu_cost) (ca_cons (ce_call (ca_cons (ce_var 3) (ca_cons (ce_var 11) (ca_cons (ce_var 12) (ca_cons (ce_var 4) ca_nil)))) pu_judged) (ca_cons (ce_call (ca_cons (ce_var 3) (ca_cons (ce_var 10) (ca_cons (ce_var 4) ca_nil))) pu_floor) ca_nil)))))
      (cs_seq (cs_set (i := 14) (ce_lst (ca_cons (ce_var 9) (ca_cons (ce_cut0 (ce_if (ct_test (ce_op (co_s 11) (co_s 10) z_eq)) (ce_var 9) ce_non)) (ca_cons (ce_call (ca_cons (ce_var 3) (ca_cons (ce_var 10) (ca_cons (ce_var 4) ca_nil))) pu__law_floor) ca_nil)))))
      (cs_seq (cs_if (ct_cut0 (ct_or (ct_not (ct_B (ce_call (ca_cons (ce_var 13) (ca_cons (ce_var 14) ca_nil)) pu__law_alike))) (ct_test (ce_op (co_s 12) (co_s 5) z_ne)))) (cs_ret ce_bl) cs_next)
      (cs_if (ct_test (ce_op (co_e (ce_call (ca_cons (ce_var 3) (ca_cons (ce_var 10) (ca_cons (ce_var 4) ca_nil))) pu_floor)) (co_s 9) z_gt)) (cs_ret ce_bl) cs_next)))))))))))
      (cs_ret ce_bl)) ?_
  clear hr hu64 hu G__law_alike b__law_alike kp__law_alike g__law_alike G__law_cost b__law_cost kp__law_cost g__law_cost G__law_dice b__law_dice kp__law_dice g__law_dice G__law_floor b__law_floor kp__law_floor g__law_floor G__law_off b__law_off kp__law_off g__law_off G__law_prices b__law_prices kp__law_prices g__law_prices G__law_row b__law_row kp__law_row g__law_row G__law_signs b__law_signs kp__law_signs g__law_signs G__law_stirred b__law_stirred kp__law_stirred g__law_stirred G__law_turned b__law_turned kp__law_turned g__law_turned G__law_turns b__law_turns kp__law_turns g__law_turns G_cost b_cost kp_cost g_cost G_floor b_floor kp_floor g_floor G_judged b_judged kp_judged g_judged
  walk_at "z"
  walk_at "for"
  refine for_r 3 (fun i s => ∃ x2 x3 x4 x5 x6 x7 x8 x9 x10 x11 x12 x13 x14, s = [.fz (.val (.ref a)), .fz .dice, x2, x3, x4, x5, x6, x7, x8, x9, x10, x11, x12, x13, x14]) rfl ⟨_, _, _, _, _, _, _, _, _, _, _, _, _, rfl⟩ ?_ ?_
  · rintro i s hi ⟨x2, x3, x4, x5, x6, x7, x8, x9, x10, x11, x12, x13, x14, rfl⟩
    walk_at "z"
    refine ⟨rfl, fun ss s1 s2 s3 s4 => ?_⟩
    walk_at "z"
    refine ⟨2, rfl, by decide, by decide, fun m hm => ?_⟩
    refine zIx_l (k := m) (by simp; omega) (.inl rfl) fun d hd => ?_
    obtain ⟨b, hb1, hb2, rfl⟩ : ∃ b : Nat, 1 ≤ b ∧ b ≤ 40 ∧ d = .int (b : Int) := by
      have h3 : m = 0 ∨ m = 1 := by omega
      rcases h3 with rfl | rfl <;> simp at hd <;> subst hd
      · exact ⟨9, by decide, by decide, rfl⟩
      · exact ⟨40, by decide, by decide, rfl⟩
    walk_at "z"
    refine ⟨.str ss, ss, (b : Int), rfl, .inl rfl, s1, by omega, by omega, by omega, fun row r1 r2 r3 => ?_⟩
    have hr : RowOk row := ⟨r1, by omega, fun c hc => s4 c (r3 c hc)⟩
    clear r1 r2 r3 s1 s2 s3 s4
    have rl := hr.2.1
    walk_at "z"
    refine ⟨rfl, fun ps hp => ?_⟩
    walk_at "z"
    walk_at "for"
    refine ⟨9, rfl, by decide, by decide, fun n hn => ?_⟩
    walk_at "z"
    refine ⟨⟨by omega, by omega⟩, ?_⟩
    refine for_r n (fun j s => ∃ (ts : List (Nat × Nat)) (x7 x8 : Sl), s = [.fz (.val (.ref a)), .fz .dice, .fz (.int (i : Int)), .fz (.str row), .fz (.tpk (ps.map fun p : Nat => .int (p : Int))), .ow (.lst (ts.map dPr)), .fz (.str (runM row ts)), x7, x8, x9, x10, x11, x12, x13, x14] ∧ goesM [] row ts ∧ ts.length ≤ j ∧ Stir [] row (runM row ts)) rfl ⟨[], _, _, rfl, trivial, Nat.le_refl _, .refl⟩ ?_ ?_
    · rintro j s hj ⟨ts, x7, x8, rfl, g1, g2, g3⟩
      have okr := g3.row hr
      have orl := okr.2.1
      have htl := turnsM_len (runM row ts) []
      have hmul : (runM row ts).length * (runM row ts).length ≤ 40 * 40 := Nat.mul_le_mul orl orl
      walk_at "z"
      refine ⟨runM row ts, [], rfl, by omega, ?_⟩
      walk_at "z"
      refine ⟨cmpOks_prs _, ?_⟩
      by_cases h0 : turnsM (runM row ts) [] = []
      · rw [h0]
        walk_at "z"
        exact ⟨ts, _, _, rfl, g1, by omega, g3⟩
      · rw [show ((turnsM (runM row ts) []).map dPr).isEmpty = false by simpa using h0]
        have hpos : 0 < (turnsM (runM row ts) []).length := List.length_pos_iff.mpr h0
        walk_at "z"
        refine ⟨((turnsM (runM row ts) []).length : Int), by rw [List.length_map], by omega, by omega, fun q hq => ?_⟩
        walk_at "z"
        refine zIx_l (k := q) (by rw [List.length_map]; omega) (.inl rfl) fun d hd => ?_
        obtain ⟨⟨h, t⟩, hqm, rfl⟩ : ∃ qq, qq ∈ turnsM (runM row ts) [] ∧ d = dPr qq := by
          rw [List.getElem?_map] at hd
          cases hq2 : (turnsM (runM row ts) [])[q]? with
          | none => rw [hq2] at hd; cases hd
          | some y => rw [hq2] at hd; exact ⟨y, List.mem_of_getElem? hq2, (Option.some.inj hd).symm⟩
        obtain ⟨q1, q2, _, _⟩ := turnsM_mem hqm
        dsimp only at q1 q2
        have hw := whyM_turns hqm
        dsimp only at hw
        walk_at "z"
        refine ⟨by rw [List.length_map]; omega, ?_⟩
        walk_at "z"
        have hll : (ts.map dPr ++ [dPr (h, t)]).length = ts.length + 1 := by rw [List.length_append, List.length_map]; rfl
        have last : ∀ d : Dt, (ts.map dPr ++ [dPr (h, t)])[ts.length]? = some d → d = dPr (h, t) := fun d hd => by
          rw [List.getElem?_append_right (by rw [List.length_map]; omega), List.length_map, Nat.sub_self] at hd
          exact (Option.some.inj hd).symm
        refine zIx_l (ds := ts.map dPr ++ [dPr (h, t)]) (k := ts.length) (by rw [hll]; omega) (.inr (by rw [hll]; omega)) fun d hd2 => ?_
        rw [last d hd2]
        walk_at "z"
        show zIx (.tup [.int (h : Int), .int (t : Int)]) (.int 0) _
        rw [zIx_t0]
        walk_at "z"
        refine zIx_l (ds := ts.map dPr ++ [dPr (h, t)]) (k := ts.length) (by rw [hll]; omega) (.inr (by rw [hll]; omega)) fun d hd2 => ?_
        rw [last d hd2]
        walk_at "z"
        show zIx (.tup [.int (h : Int), .int (t : Int)]) (.int 1) _
        rw [zIx_t1]
        walk_at "z"
        refine ⟨runM row ts, h, t, rfl, by omega, q2, by omega, ?_⟩
        walk_at "z"
        have g3' : Stir [] row (runM row (ts ++ [(h, t)])) := by rw [runM_snoc]; exact g3.step hqm
        have g1' := goesM_snoc (q := (h, t)) g1 hw
        have e1 : turnM (runM row ts) h t = runM row (ts ++ [(h, t)]) := by rw [runM_snoc]
        have e2 : ts.map dPr ++ [dPr (h, t)] = (ts ++ [(h, t)]).map dPr := by rw [List.map_append]; rfl
        rw [e1, e2]
        exact ⟨ts ++ [(h, t)], _, _, rfl, g1', by rw [List.length_append]; show ts.length + 1 ≤ j + 1; omega, g3'⟩
    · rintro s ⟨ts, x7, x8, rfl, g1, g2, g3⟩
      have ok2 := g3.row hr
      have o2l := ok2.2.1
      walk_at "z"
      refine ⟨row, ps, ts, _, rfl, hr, .inr rfl, hp, g1, by omega, ?_⟩
      walk_at "z"
      refine ⟨row, [], 3, rfl, by decide, by omega, fun r sr => ?_⟩
      walk_at "z"
      refine ⟨3, rfl, by decide, by decide, fun q hq => ?_⟩
      refine zIx_l (k := q) (by simp; omega) (.inl rfl) fun d hd => ?_
      obtain ⟨ot, oto, rfl⟩ : ∃ ot, RowOk ot ∧ d = .str ot := by
        have h3 : q = 0 ∨ q = 1 ∨ q = 2 := by omega
        rcases h3 with rfl | rfl | rfl <;> simp at hd <;> subst hd
        · exact ⟨_, ok2, rfl⟩
        · exact ⟨_, hr, rfl⟩
        · exact ⟨_, sr.row hr, rfl⟩
      walk_at "z"
      refine ⟨row, ps, ts, _, rfl, hr, .inr rfl, hp, g1, by omega, ?_⟩
      walk_at "z"
      refine ⟨row, ot, ps, ts, _, rfl, hr, oto, .inr rfl, hp, g1, by omega, ?_⟩
      walk_at "z"
      refine ⟨row, runM row ts, ps, _, rfl, hr, ok2, .inr rfl, hp, g3.thr.symm, ?_⟩
      walk_at "z"
      walk_at "eqs"
      by_cases e : ot = runM row ts
      · rw [decide_eq_true e, if_pos e.symm]
        walk_at "z"
        refine ⟨row, runM row ts, ps, _, rfl, hr, ok2, .inr rfl, hp, ?_⟩
        walk_at "z"
        obtain ⟨L3, L4⟩ := Shp.like (show Shp 12 (.lst [.int _, .int _, .int _]) from .lst (Nat.le_of_ble_eq_true rfl) (shp_cons .int (shp_cons .int (shp_cons .int shp_nil))))
        refine ⟨_, rfl, L3, L4, ?_⟩
        walk_at "z"
        refine zNe_same (show cmpOks 59 (ts.map dPr) = true from cmpOks_prs ts) ?_
        walk_at "z"
        refine ⟨row, runM row ts, ps, _, rfl, hr, ok2, .inr rfl, hp, g3.thr.symm, ?_⟩
        walk_at "z"
        have fl := floor_le ps g1
        rw [decide_eq_false (show ¬ ((costM ps row ts : Nat) : Int) < ((floorM row (runM row ts) ps : Nat) : Int) by omega)]
        walk_at "z"
        exact ⟨_, _, _, _, _, _, _, _, _, _, _, _, _, rfl⟩
      · rw [decide_eq_false e, if_neg (show ¬ runM row ts = ot from fun z => e z.symm)]
        walk_at "z"
        refine ⟨row, runM row ts, ps, _, rfl, hr, ok2, .inr rfl, hp, ?_⟩
        walk_at "z"
        obtain ⟨L3, L4⟩ := Shp.like (show Shp 12 (.lst [.int _, .non, .int _]) from .lst (Nat.le_of_ble_eq_true rfl) (shp_cons .int (shp_cons .non (shp_cons .int shp_nil))))
        refine ⟨_, rfl, L3, L4, ?_⟩
        walk_at "z"
        refine zNe_same (show cmpOks 59 (ts.map dPr) = true from cmpOks_prs ts) ?_
        walk_at "z"
        refine ⟨row, runM row ts, ps, _, rfl, hr, ok2, .inr rfl, hp, g3.thr.symm, ?_⟩
        walk_at "z"
        have fl := floor_le ps g1
        rw [decide_eq_false (show ¬ ((costM ps row ts : Nat) : Int) < ((floorM row (runM row ts) ps : Nat) : Int) by omega)]
        walk_at "z"
        exact ⟨_, _, _, _, _, _, _, _, _, _, _, _, _, rfl⟩
  · rintro s ⟨x2, x3, x4, x5, x6, x7, x8, x9, x10, x11, x12, x13, x14, rfl⟩
    walk_at "z"
end
noncomputable instance zi0 : ZI := ziE
def d__law_dice : He.DefD := ⟨("_law_dice", none), "_law_dice", "_law_dice", defArgs s__law_dice, defBody s__law_dice, defScope s__law_dice, [], []⟩
def d__law_off : He.DefD := ⟨("_law_off", none), "_law_off", "_law_off", defArgs s__law_off, defBody s__law_off, defScope s__law_off, [], []⟩
def d__law_row : He.DefD := ⟨("_law_row", none), "_law_row", "_law_row", defArgs s__law_row, defBody s__law_row, defScope s__law_row, [], []⟩
def d__law_mixed : He.DefD := ⟨("_law_mixed", none), "_law_mixed", "_law_mixed", defArgs s__law_mixed, defBody s__law_mixed, defScope s__law_mixed, [], []⟩
def d__law_signs : He.DefD := ⟨("_law_signs", none), "_law_signs", "_law_signs", defArgs s__law_signs, defBody s__law_signs, defScope s__law_signs, [], []⟩
def d__law_prices : He.DefD := ⟨("_law_prices", none), "_law_prices", "_law_prices", defArgs s__law_prices, defBody s__law_prices, defScope s__law_prices, [], []⟩
def d__law_turns : He.DefD := ⟨("_law_turns", none), "_law_turns", "_law_turns", defArgs s__law_turns, defBody s__law_turns, defScope s__law_turns, [], []⟩
def d__law_turned : He.DefD := ⟨("_law_turned", none), "_law_turned", "_law_turned", defArgs s__law_turned, defBody s__law_turned, defScope s__law_turned, [], []⟩
def d__law_cost : He.DefD := ⟨("_law_cost", none), "_law_cost", "_law_cost", defArgs s__law_cost, defBody s__law_cost, defScope s__law_cost, [], []⟩
def d__law_stirred : He.DefD := ⟨("_law_stirred", none), "_law_stirred", "_law_stirred", defArgs s__law_stirred, defBody s__law_stirred, defScope s__law_stirred, [], []⟩
def d_need_row : He.DefD := ⟨("need_row", none), "need_row", "need_row", defArgs s_need_row, defBody s_need_row, defScope s_need_row, [], []⟩
def d_is_number : He.DefD := ⟨("is_number", none), "is_number", "is_number", defArgs s_is_number, defBody s_is_number, defScope s_is_number, [], []⟩
def d_need_prices : He.DefD := ⟨("need_prices", none), "need_prices", "need_prices", defArgs s_need_prices, defBody s_need_prices, defScope s_need_prices, [], []⟩
def d_free_places : He.DefD := ⟨("free_places", none), "free_places", "free_places", defArgs s_free_places, defBody s_free_places, defScope s_free_places, [], []⟩
def d_name_of : He.DefD := ⟨("name_of", none), "name_of", "name_of", defArgs s_name_of, defBody s_name_of, defScope s_name_of, [], []⟩
def d_threads_of : He.DefD := ⟨("threads_of", none), "threads_of", "threads_of", defArgs s_threads_of, defBody s_threads_of, defScope s_threads_of, [], []⟩
def d_first_apart : He.DefD := ⟨("first_apart", none), "first_apart", "first_apart", defArgs s_first_apart, defBody s_first_apart, defScope s_first_apart, [], []⟩
def d_apart : He.DefD := ⟨("apart", none), "apart", "apart", defArgs s_apart, defBody s_apart, defScope s_apart, [], []⟩
def d_pair_of : He.DefD := ⟨("pair_of", none), "pair_of", "pair_of", defArgs s_pair_of, defBody s_pair_of, defScope s_pair_of, [], []⟩
def d_passings : He.DefD := ⟨("passings", none), "passings", "passings", defArgs s_passings, defBody s_passings, defScope s_passings, [], []⟩
def d_changed : He.DefD := ⟨("changed", none), "changed", "changed", defArgs s_changed, defBody s_changed, defScope s_changed, [], []⟩
def d_price_of : He.DefD := ⟨("price_of", none), "price_of", "price_of", defArgs s_price_of, defBody s_price_of, defScope s_price_of, [], []⟩
def d_floor : He.DefD := ⟨("floor", none), "floor", "floor", defArgs s_floor, defBody s_floor, defScope s_floor, [], []⟩
def d_why_not : He.DefD := ⟨("why_not", none), "why_not", "why_not", defArgs s_why_not, defBody s_why_not, defScope s_why_not, [], []⟩
def d_behind : He.DefD := ⟨("behind", none), "behind", "behind", defArgs s_behind, defBody s_behind, defScope s_behind, [], []⟩
def d_gone : He.DefD := ⟨("gone", none), "gone", "gone", defArgs s_gone, defBody s_gone, defScope s_gone, [], []⟩
def d_judged : He.DefD := ⟨("judged", none), "judged", "judged", defArgs s_judged, defBody s_judged, defScope s_judged, [], []⟩
def d_cost : He.DefD := ⟨("cost", none), "cost", "cost", defArgs s_cost, defBody s_cost, defScope s_cost, [], []⟩
def d__law_floor : He.DefD := ⟨("_law_floor", none), "_law_floor", "_law_floor", defArgs s__law_floor, defBody s__law_floor, defScope s__law_floor, [], []⟩
def d__law_alike : He.DefD := ⟨("_law_alike", none), "_law_alike", "_law_alike", defArgs s__law_alike, defBody s__law_alike, defScope s__law_alike, [], []⟩
def d_law : He.DefD := ⟨("law", none), "law", "law", defArgs s_law, defBody s_law, defScope s_law, [], []⟩
def fnD : List He.DefD := [d__law_dice, d__law_off, d__law_row, d__law_mixed, d__law_signs, d__law_prices, d__law_turns, d__law_turned, d__law_cost, d__law_stirred, d_need_row, d_is_number, d_need_prices, d_free_places, d_name_of, d_threads_of, d_first_apart, d_apart, d_pair_of, d_passings, d_changed, d_price_of, d_floor, d_why_not, d_behind, d_gone, d_judged, d_cost, d__law_floor, d__law_alike, d_law]
def faD : List He.Fa := [.glo "_law_dice", .glo "_law_off", .glo "_law_row", .glo "_law_mixed", .glo "_law_signs", .glo "_law_prices", .glo "_law_turns", .glo "_law_turned", .glo "_law_cost", .glo "_law_stirred", .glo "need_row", .glo "is_number", .glo "need_prices", .glo "free_places", .glo "name_of", .glo "threads_of", .glo "first_apart", .glo "apart", .glo "pair_of", .glo "passings", .glo "changed", .glo "price_of", .glo "floor", .glo "why_not", .glo "behind", .glo "gone", .glo "judged", .glo "cost", .glo "_law_floor", .glo "_law_alike", .glo "law", .free "abs", .free "all", .free "bool", .free "enumerate", .free "int", .free "isinstance", .free "len", .free "list", .free "min", .free "range", .free "set", .free "sorted", .free "str", .free "sum", .free "tuple", .free "zip", .int "MOST_PRICE" 99, .int "MOST_SIGNS" 40, .str "SIGNS" (S [97, 98, 99, 100, 101, 102, 103, 104])]
def loose0 : List Str := ["TurnError", "Unlike", "BadRow", "BadTurn", "BadPrices", "SIGNS", "MOST_SIGNS", "is_number", "need_row", "pair_of", "why_not", "behind", "free_places", "name_of", "threads_of", "first_apart", "apart", "MOST_PRICE", "need_prices", "price_of", "gone", "cost", "judged", "passings", "changed", "floor", "_law_dice", "_law_off", "_law_row", "_law_mixed"]
def loose1 : List Str := ["_law_signs", "_law_prices", "_law_turns", "_law_turned", "_law_cost", "_law_stirred", "_law_alike", "_law_floor"]
def loose : List Str := loose0 ++ loose1
abbrev rowD : PySem.W.OpenRow := PySem.W.OpenLaw.row PySem.Challenge.rw_liketurns_k58_what_turns_cost
abbrev hookL : PySem.W.Hook := He.hookD 4 faD fnD
def obL (s : PySem.W.SharedT) : He.AlD := He.obsDG 4 faD fnD (HandSHeadRun.getT s)
theorem obL_eq (s : PySem.W.SharedT) : obL s = hookL.obs s.abs := He.obsDG_eq (HandSHeadRun.getT_eq s)
set_option maxHeartbeats 0 in
theorem runL (w : World) : HandSHeadRun.RunEq rowD (PySem.W.view rowD.prog [44]) hookL obL 4250 loose w := by
  intro os
  kernel_rfl
theorem txtL {K : PySem.W.Frag} {h : Heap} {mg : Str → Option Value} (X : K.In h) (G : h.Ns mainGlobals mg) (c : He.SaysD faD fnD K) : Txt K mg where
  z_abs := He.free_ok X G (c.fact 31 (f := .free "abs") rfl)
  z_all := He.free_ok X G (c.fact 32 (f := .free "all") rfl)
  z_bool := He.free_ok X G (c.fact 33 (f := .free "bool") rfl)
  z_enumerate := He.free_ok X G (c.fact 34 (f := .free "enumerate") rfl)
  z_int := He.free_ok X G (c.fact 35 (f := .free "int") rfl)
  z_isinstance := He.free_ok X G (c.fact 36 (f := .free "isinstance") rfl)
  z_len := He.free_ok X G (c.fact 37 (f := .free "len") rfl)
  z_list := He.free_ok X G (c.fact 38 (f := .free "list") rfl)
  z_min := He.free_ok X G (c.fact 39 (f := .free "min") rfl)
  z_range := He.free_ok X G (c.fact 40 (f := .free "range") rfl)
  z_set := He.free_ok X G (c.fact 41 (f := .free "set") rfl)
  z_sorted := He.free_ok X G (c.fact 42 (f := .free "sorted") rfl)
  z_str := He.free_ok X G (c.fact 43 (f := .free "str") rfl)
  z_sum := He.free_ok X G (c.fact 44 (f := .free "sum") rfl)
  z_tuple := He.free_ok X G (c.fact 45 (f := .free "tuple") rfl)
  z_zip := He.free_ok X G (c.fact 46 (f := .free "zip") rfl)
  c_MOST_PRICE := by
    obtain ⟨t, e⟩ := He.int_ok X G (c.fact 47 (f := .int "MOST_PRICE" 99) rfl)
    exact ⟨_, e, ⟨_, rfl⟩⟩
  c_MOST_SIGNS := by
    obtain ⟨t, e⟩ := He.int_ok X G (c.fact 48 (f := .int "MOST_SIGNS" 40) rfl)
    exact ⟨_, e, ⟨_, rfl⟩⟩
  c_SIGNS := by
    obtain ⟨t, e⟩ := He.str_ok X G (c.fact 49 (f := .str "SIGNS" (S [97, 98, 99, 100, 101, 102, 103, 104])) rfl)
    exact ⟨_, e, ⟨_, rfl⟩⟩
  f__law_dice := by
    obtain ⟨fd, F⟩ := c.def_ 0 (d := d__law_dice) rfl
    exact ⟨_, fd, He.glo_ok X G (c.fact 0 (f := .glo "_law_dice") rfl), F⟩
  f__law_off := by
    obtain ⟨fd, F⟩ := c.def_ 1 (d := d__law_off) rfl
    exact ⟨_, fd, He.glo_ok X G (c.fact 1 (f := .glo "_law_off") rfl), F⟩
  f__law_row := by
    obtain ⟨fd, F⟩ := c.def_ 2 (d := d__law_row) rfl
    exact ⟨_, fd, He.glo_ok X G (c.fact 2 (f := .glo "_law_row") rfl), F⟩
  f__law_mixed := by
    obtain ⟨fd, F⟩ := c.def_ 3 (d := d__law_mixed) rfl
    exact ⟨_, fd, He.glo_ok X G (c.fact 3 (f := .glo "_law_mixed") rfl), F⟩
  f__law_signs := by
    obtain ⟨fd, F⟩ := c.def_ 4 (d := d__law_signs) rfl
    exact ⟨_, fd, He.glo_ok X G (c.fact 4 (f := .glo "_law_signs") rfl), F⟩
  f__law_prices := by
    obtain ⟨fd, F⟩ := c.def_ 5 (d := d__law_prices) rfl
    exact ⟨_, fd, He.glo_ok X G (c.fact 5 (f := .glo "_law_prices") rfl), F⟩
  f__law_turns := by
    obtain ⟨fd, F⟩ := c.def_ 6 (d := d__law_turns) rfl
    exact ⟨_, fd, He.glo_ok X G (c.fact 6 (f := .glo "_law_turns") rfl), F⟩
  f__law_turned := by
    obtain ⟨fd, F⟩ := c.def_ 7 (d := d__law_turned) rfl
    exact ⟨_, fd, He.glo_ok X G (c.fact 7 (f := .glo "_law_turned") rfl), F⟩
  f__law_cost := by
    obtain ⟨fd, F⟩ := c.def_ 8 (d := d__law_cost) rfl
    exact ⟨_, fd, He.glo_ok X G (c.fact 8 (f := .glo "_law_cost") rfl), F⟩
  f__law_stirred := by
    obtain ⟨fd, F⟩ := c.def_ 9 (d := d__law_stirred) rfl
    exact ⟨_, fd, He.glo_ok X G (c.fact 9 (f := .glo "_law_stirred") rfl), F⟩
  f_need_row := by
    obtain ⟨fd, F⟩ := c.def_ 10 (d := d_need_row) rfl
    exact ⟨_, fd, He.glo_ok X G (c.fact 10 (f := .glo "need_row") rfl), F⟩
  f_is_number := by
    obtain ⟨fd, F⟩ := c.def_ 11 (d := d_is_number) rfl
    exact ⟨_, fd, He.glo_ok X G (c.fact 11 (f := .glo "is_number") rfl), F⟩
  f_need_prices := by
    obtain ⟨fd, F⟩ := c.def_ 12 (d := d_need_prices) rfl
    exact ⟨_, fd, He.glo_ok X G (c.fact 12 (f := .glo "need_prices") rfl), F⟩
  f_free_places := by
    obtain ⟨fd, F⟩ := c.def_ 13 (d := d_free_places) rfl
    exact ⟨_, fd, He.glo_ok X G (c.fact 13 (f := .glo "free_places") rfl), F⟩
  f_name_of := by
    obtain ⟨fd, F⟩ := c.def_ 14 (d := d_name_of) rfl
    exact ⟨_, fd, He.glo_ok X G (c.fact 14 (f := .glo "name_of") rfl), F⟩
  f_threads_of := by
    obtain ⟨fd, F⟩ := c.def_ 15 (d := d_threads_of) rfl
    exact ⟨_, fd, He.glo_ok X G (c.fact 15 (f := .glo "threads_of") rfl), F⟩
  f_first_apart := by
    obtain ⟨fd, F⟩ := c.def_ 16 (d := d_first_apart) rfl
    exact ⟨_, fd, He.glo_ok X G (c.fact 16 (f := .glo "first_apart") rfl), F⟩
  f_apart := by
    obtain ⟨fd, F⟩ := c.def_ 17 (d := d_apart) rfl
    exact ⟨_, fd, He.glo_ok X G (c.fact 17 (f := .glo "apart") rfl), F⟩
  f_pair_of := by
    obtain ⟨fd, F⟩ := c.def_ 18 (d := d_pair_of) rfl
    exact ⟨_, fd, He.glo_ok X G (c.fact 18 (f := .glo "pair_of") rfl), F⟩
  f_passings := by
    obtain ⟨fd, F⟩ := c.def_ 19 (d := d_passings) rfl
    exact ⟨_, fd, He.glo_ok X G (c.fact 19 (f := .glo "passings") rfl), F⟩
  f_changed := by
    obtain ⟨fd, F⟩ := c.def_ 20 (d := d_changed) rfl
    exact ⟨_, fd, He.glo_ok X G (c.fact 20 (f := .glo "changed") rfl), F⟩
  f_price_of := by
    obtain ⟨fd, F⟩ := c.def_ 21 (d := d_price_of) rfl
    exact ⟨_, fd, He.glo_ok X G (c.fact 21 (f := .glo "price_of") rfl), F⟩
  f_floor := by
    obtain ⟨fd, F⟩ := c.def_ 22 (d := d_floor) rfl
    exact ⟨_, fd, He.glo_ok X G (c.fact 22 (f := .glo "floor") rfl), F⟩
  f_why_not := by
    obtain ⟨fd, F⟩ := c.def_ 23 (d := d_why_not) rfl
    exact ⟨_, fd, He.glo_ok X G (c.fact 23 (f := .glo "why_not") rfl), F⟩
  f_behind := by
    obtain ⟨fd, F⟩ := c.def_ 24 (d := d_behind) rfl
    exact ⟨_, fd, He.glo_ok X G (c.fact 24 (f := .glo "behind") rfl), F⟩
  f_gone := by
    obtain ⟨fd, F⟩ := c.def_ 25 (d := d_gone) rfl
    exact ⟨_, fd, He.glo_ok X G (c.fact 25 (f := .glo "gone") rfl), F⟩
  f_judged := by
    obtain ⟨fd, F⟩ := c.def_ 26 (d := d_judged) rfl
    exact ⟨_, fd, He.glo_ok X G (c.fact 26 (f := .glo "judged") rfl), F⟩
  f_cost := by
    obtain ⟨fd, F⟩ := c.def_ 27 (d := d_cost) rfl
    exact ⟨_, fd, He.glo_ok X G (c.fact 27 (f := .glo "cost") rfl), F⟩
  f__law_floor := by
    obtain ⟨fd, F⟩ := c.def_ 28 (d := d__law_floor) rfl
    exact ⟨_, fd, He.glo_ok X G (c.fact 28 (f := .glo "_law_floor") rfl), F⟩
  f__law_alike := by
    obtain ⟨fd, F⟩ := c.def_ 29 (d := d__law_alike) rfl
    exact ⟨_, fd, He.glo_ok X G (c.fact 29 (f := .glo "_law_alike") rfl), F⟩
theorem factsL {P : Program} {w : World} {K : PySem.W.Frag} {h : Heap} {mg : Str → Option Value} {f : Addr} (X : K.In h) (G : h.Ns mainGlobals mg) (hfa : mg ("law" : Str) = some (.ref f)) (c : He.SaysD faD fnD K) :
    ∃ fd : FuncData, (∀ (s : Shared) (v : Value), BindsTo s fd ⟨[v], []⟩ [("_law_script", v)]) ∧ ∀ base : Heap, K.In base → base.Ns mainGlobals mg → FnOk P w K mg base CX0 14 f fd ["_law_script"] (sp_law K) := by
  obtain ⟨fd, F⟩ := c.def_ 30 (d := d_law) rfl
  have e := hfa.symm.trans (He.glo_ok X G (c.fact 30 (f := .glo "law") rfl))
  cases e
  have b := FunD.bindsA (ps := ["_law_script"]) F fun _ _ _ _ _ _ us hl => match us, hl with | [_], _ => rfl
  exact ⟨fd, fun s v => b s [v] rfl, fun base _ _ => ok_law (txtL X G c) F⟩
end Lt
open PySem PySem.W PySem.Calls PyProof.Rows
set_option maxHeartbeats 0 in
theorem PySem.Challenge.cw_liketurns_k58_what_turns_cost_holds : PySem.Challenge.rw_liketurns_k58_what_turns_cost.Holds := by
  w_on; o_law
  refine HandSHeadRun.head_any (r := OpenLaw.row PySem.Challenge.rw_liketurns_k58_what_turns_cost) (q := view (OpenLaw.row PySem.Challenge.rw_liketurns_k58_what_turns_cost).prog [44]) (H := Lt.hookL) (ob := Lt.obL) (M := 4250) (loose := Lt.loose) (d := HandSHeadRun.topDef (OpenLaw.row PySem.Challenge.rw_liketurns_k58_what_turns_cost).prog 44) (kwd := []) Lt.obL_eq
    (by kernel_rfl) (fun s => by kernel_rfl) Lt.runL (by kernel_rfl) (by kernel_rfl) (by kernel_rfl) (by rfl) (by first | assumption | decide +kernel) (by decide +kernel) ⟨rfl, rfl, rfl, rfl, rfl, by decide +kernel⟩ ?hw ?hc
  case hw => w_witness2
  case hc =>
    refine L2.walk_ofE (l := PySem.Challenge.rw_liketurns_k58_what_turns_cost) (n := 63) (k := 14) (x := "_law_script") (CX := L2.CX0) rfl (by decide) (by kernel_rfl) ⟨rfl, by decide, by decide⟩ ?F (fun _ _ _ _ z => z)
    intro w mg fa h Y G hmg0
    obtain ⟨K, KX, c⟩ := Y
    have hmg : mg ("law" : PySem.Str) = some (.ref fa) := by
      have e : (HandSHeadRun.topDef (OpenLaw.row PySem.Challenge.rw_liketurns_k58_what_turns_cost).prog 44).name = ("law" : PySem.Str) := by kernel_rfl
      rw [← e]
      exact hmg0
    obtain ⟨fd, hb, hF⟩ := Lt.factsL (P := (PySem.Challenge.rw_liketurns_k58_what_turns_cost).prog) (w := w) KX G hmg c
    exact ⟨K, fd, Lt.sp_law K, KX, hb, fun H a ns hl _ hS => ⟨a, ns, rfl, hS, hl, Lt.ivE, fun _ => rfl⟩, hF⟩
