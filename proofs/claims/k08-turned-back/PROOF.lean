import PyProof.Rows.All
import Wide.All
import OpenK.AllK
import Wide.FinOn
import KE.KStateDown
import Lean
import HandS.Head0
import HandS.Head1
import HandS.Head2
import HandS.HeadEnd
import HandS.HeadHook1
import HandS.HeadHook2
import HandS.ForMost
import HandS.More
import HandS.Evl
import HandS.Steps
import HandS.WordsExc
import HandS.Defaults
import HandS.IsInst
import HandS.Walk
import HandS.Codes
import HandS.Style
import HandS.Flow
import HandS.Wide
import HandS.Conv
import HandS.Zip
import HandS.TupAny
import HandS.SortOrd
import KE.GoesMore
import KE.GoesEnum
import PySem.Challenge.RW_liketurns_k08_whole_turned_back
set_option Elab.async false
set_option linter.all false
set_option maxRecDepth 100000
set_option maxHeartbeats 4000000
/-! Lt1: texts as lists of signs; walks over texts by enumerate and zip; rules whose readings speak of these. -/
namespace Lt
open PySem PySem.Spec PyProof.Rows L2 Evl
open SX (S)

/-! ### a text as a value -/
abbrev Tx (l : List Nat) : V := .str (S l)
theorem tx_inj {a b : List Nat} (h : Tx a = Tx b) : a = b := SX.S_inj (V.str.inj h)
theorem tx_dec (a b : List Nat) : decide (Tx a = Tx b) = decide (a = b) := by
  by_cases h : a = b
  · subst h; simp
  · rw [decide_eq_false h, decide_eq_false fun q => h (tx_inj q)]
theorem S_cps (a : List Nat) : (S a).cps.toList = a := by simp [S]
theorem S_size (a : List Nat) : (S a).cps.size = a.length := by simp [S]

section
variable {X : Cx}
/-- a written text as its signs -/
theorem pe_strL {x : Str} {l : List Nat} {j pos} (h : x = S l) : PE X (.Constant (.str x) j pos) (tC (Tx l)) := by
  subst h
  exact pe_str

/-! ### a walk that makes a tuple at each turn, out of things that stand by themselves -/
def Itw (n : Nat) (R : Nat → List V → Prop) : It :=
  ⟨fun i _ => i < n, fun i H v H' => ∃ T xs, v = .ref T ∧ H T = none ∧ H' = upd H T (.tup xs) ∧ R i xs, fun i _ => i = n⟩
theorem turn_walksT {P : Program} {w : World} {K : PySem.W.Frag} {elts : List Expr} {kk : Nat} {tpos : Pos} {I : Addr} {fp wr : List Addr} {n : Nat} {Pt : Nat → Array Value → Prop} {St : Nat → Heap → Prop} {Mid : Nat → Addr → Heap → Prop} {R : Nat → List V → Prop}
    (W : ∀ A : Around, A.handled = none → WalksT P w A I fp wr n Pt St Mid) (mem : I ∈ fp) (obj : ∀ i h, St i h → ∀ b ∈ fp, ∃ o, h.get? b = some o ∧ ∀ v, o.data ≠ .cell v)
    (rel : ∀ i vals, Pt i vals → vals.size ≤ sizeLine ∧ ∃ xs, Vals xs vals.toList ∧ R i xs)
    (self : ∀ (A : Around) (i : Nat) (s : Shared) (Q : Value → Shared → Prop) (E : Value → Shared → Prop), St i s.heap → Q (.ref I) s → wpAny (model P w) A (pyIter (.ref I)) Q E s) : Turn P w K (.Tuple elts kk tpos) (Itw n R) fp I St where
  mem := mem
  obj := obj
  keep := fun i h h' st k => (W callerA rfl).frame i h h' st k
  item := by
    intro X hP hw hK hc i pins s σ H E I0 hf st hg
    subst hP hw hK
    have D := W X.A (I0.ok.hd hc)
    refine D.item i s _ E hg st fun T vals h' tk hp hsz hT hmid hk => ⟨_, rfl, D.go elts kk tpos i T _ _ _ hmid fun h'' st' hk' => ?_⟩
    obtain ⟨hz, xs, hv, hR⟩ := rel i vals hp
    have hTn : T ∉ wr := D.apart i T h' hmid
    have hlen : xs.length ≤ sizeLine := by
      rw [hv.length, Array.length_toList]
      exact hz
    have new : ObjOk X.prog X.w (upd H T (.tup xs)) h'' T (.tup xs) := by
      obtain ⟨o, ho, hr⟩ := hT
      exact ⟨hlen, vals.toList, hv, o, hk' T o hTn ho, by simpa using hr⟩
    have I1 : Inv X pins σ (upd H T (.tup xs)) { s with heap := h'', toks := tk } :=
      I0.turnedNew (ch := wr) (fun b o hb e => hk' b o hb (hk b o hb e)) (fun b hb => hf b (D.sub b hb)) hsz new
    refine ⟨.ref T, _, I1, rfl, ⟨T, xs, rfl, I0.hok.fresh hsz, rfl, hR⟩, st', fun b hb => ?_⟩
    obtain ⟨o, ho, _⟩ := obj i s.heap st b hb
    rw [upd_ne (Nat.ne_of_lt (Nat.lt_of_lt_of_le (Heap.lt_size ho) hsz))]
    exact (hf b hb).1
  done := by
    intro X hP hw hK hc i pins s σ H E I0 hf st hg
    subst hP hw hK
    have D := W X.A (I0.ok.hd hc)
    have hg' : i = n := hg
    subst hg'
    refine D.done s _ E st fun h' tk hk => ⟨rfl, ?_⟩
    have nf : ∀ b u, H b = some u → b ∉ wr := fun b u e z => by
      have q := (hf b (D.sub b z)).1
      rw [q] at e; cases e
    refine I0.step (g' := s.gens) (d' := s.drawn) (ch := wr) (fun b hb => ?_) (fun b o _ _ hc e _ => hk b o hc e) (fun b o _ _ hc e _ => ⟨o.slots, hk b o hc e⟩) (fun _ _ _ _ n => n)
      (fun b o hc e => ⟨o, hk b o hc e⟩) (fun _ _ e => e) (fun _ _ _ e => e) (fun b ps e => ⟨#[], by rw [e]; simp⟩) (fun m hm => ?_) (fun b u e => ?_) I0.bare
    · obtain ⟨f0, f1, f2, f3, f4, f5⟩ := hf b (D.sub b hb)
      exact ⟨f3, f1, f4, f5⟩
    · obtain ⟨o, es, ep, ho, r⟩ := hm
      refine ⟨o, es, ep, hk _ o (fun z => (hf _ (D.sub _ z)).2.1 rfl) ho, r⟩
    · refine (I0.hok b u e).stay (fun c v hc q => hk c v ?_ q) (fun _ q => q) fun _ _ q => q
      rcases hc with z | z
      · rw [z]; exact nf b u e
      · exact nf c _ z
  self := self
/-! ### enumerate(text), zip(text, text) -/
def SignV (x : Str) (i : Nat) (v : Value) : Prop := ∃ c u, x.cps[i]? = some c ∧ v = .str ⟨#[c]⟩ u
abbrev Itex (l : List Nat) : It := Itw l.length fun i xs => ∃ c, l[i]? = some c ∧ xs = [.int (i : Nat), Tx [c]]
abbrev Itzx (l m : List Nat) : It := Itw (min l.length m.length) fun i xs => ∃ c d, l[i]? = some c ∧ m[i]? = some d ∧ xs = [Tx [c], Tx [d]]
theorem itw_congr {n m : Nat} {R R' : Nat → List V → Prop} (h : n = m) (hr : ∀ i xs, R i xs ↔ R' i xs) : Itw n R = Itw m R' := by
  subst h
  have : R = R' := by funext i xs; exact propext (hr i xs)
  rw [this]
theorem itex_S (l : List Nat) : (Itw (S l).cps.size fun i xs => ∃ c, (S l).cps[i]? = some c ∧ xs = [.int (i : Nat), .str ⟨#[c]⟩]) = Itex l :=
  itw_congr (S_size l) (by intro i xs; simp [S])
theorem itzx_S (l m : List Nat) : (Itw (min (S l).cps.size (S m).cps.size) fun i xs => ∃ c d, (S l).cps[i]? = some c ∧ (S m).cps[i]? = some d ∧ xs = [V.str ⟨#[c]⟩, .str ⟨#[d]⟩]) = Itzx l m :=
  itw_congr (by rw [S_size, S_size]) (by intro i xs; simp [S])
def iEnumX (ta : TA) : TI := fun σ H R => ta σ H fun vs H1 => ∃ l, vs = [Tx l] ∧ R (Itex l) H1
theorem pi_enumX {e : Expr} {ta : TA} {p pos tpos : Pos} {elts : List Expr} {kk : Nat} (hg : Gl X "enumerate") (hm : X.mg "enumerate" = none) (ha : PA X [e] ta) (hs : starEach [e] X.env = [(false, eval e X.env)] := by rfl) :
    PI X (.Tuple elts kk tpos) (.Call (.Name "enumerate" p) [e] [] pos) (iEnumX ta) := by
  refine ⟨fun pins s σ H R I h => ?_⟩
  refine Call_ (ld_blt I hg hm boot_enumerate (PyProof.Rows.callWith_type1 (thn (ha.run pos pins s σ H _ I h) fun us s1 ⟨vs, H1, I1, r1, q1⟩ => ?_) hs rfl))
  obtain ⟨l, ex, q0⟩ := q1
  subst ex
  have q : R (Itw (S l).cps.size fun i xs => ∃ c, (S l).cps[i]? = some c ∧ xs = [.int (i : Nat), .str ⟨#[c]⟩]) H1 := by
    rw [itex_S]; exact q0
  cases r1 with
  | cons r rr =>
    cases rr
    obtain ⟨t, rfl⟩ := r
    refine call_enumerate_str fun h' he hit hsz hk => wpAny_pyIter_enum he ?_
    have I2 : Inv X pins σ H1 { s1 with heap := h' } := I1.kept (t' := s1.toks) hk
    have hne : s1.heap.objs.size + 1 ≠ s1.heap.objs.size := Nat.succ_ne_self _
    refine ⟨s1.heap.objs.size + 1, [s1.heap.objs.size + 1, s1.heap.objs.size], _, _, H1, rfl, I2,
      turn_walksT (wr := [s1.heap.objs.size + 1, s1.heap.objs.size]) (n := (S l).cps.size)
        (fun A hA => WalksT.enumerateD (Draws.text (A := A.in1) hA s1.heap.objs.size (S l) t) (s1.heap.objs.size + 1) hne (by simp) (by simp)) (by simp)
        (fun i h st b hb => ?_) (fun i vals hp => ?_) (fun A i s Q E st hq => ?_), ⟨⟨_, he⟩, hit⟩, fun b hb => ?_, q⟩
    · obtain ⟨⟨old, he'⟩, ⟨o, ho, hc, hd⟩⟩ := st
      have e' : b = s1.heap.objs.size + 1 ∨ b = s1.heap.objs.size := by simpa using hb
      rcases e' with z | z
      · rw [z]; exact ⟨_, he', fun v q => nomatch q⟩
      · rw [z]; exact ⟨o, ho, fun v q => by rw [hd] at q; cases q⟩
    · obtain ⟨t', v, ⟨c, u, hc, rfl⟩, rfl⟩ := hp
      exact ⟨by show 2 ≤ sizeLine; decide, [.int (i : Nat), .str ⟨#[c]⟩], .cons ⟨_, rfl⟩ (.cons ⟨_, rfl⟩ .nil), c, hc, rfl⟩
    · obtain ⟨⟨old, he'⟩, _⟩ := st
      exact wpAny_pyIter_enum he' hq
    · have e' : b = s1.heap.objs.size + 1 ∨ b = s1.heap.objs.size := by simpa using hb
      have hle : s1.heap.objs.size ≤ b := by
        rcases e' with z | z
        · rw [z]; exact Nat.le_add_right _ _
        · rw [z]; exact Nat.le_refl _
      exact I1.fpOk hle (I1.hok.fresh hle)
def iZipX (ta : TA) : TI := fun σ H R => ta σ H fun vs H1 => ∃ l m, vs = [Tx l, Tx m] ∧ R (Itzx l m) H1
theorem pi_zipX {e e2 : Expr} {ta : TA} {p pos tpos : Pos} {elts : List Expr} {kk : Nat} (hg : Gl X "zip") (hm : X.mg "zip" = none) (ha : PA X [e, e2] ta)
    (hs : starEach [e, e2] X.env = (false, eval e X.env) :: starEach [e2] X.env := by rfl) (hpl : (backTo pos (starEach [e2] X.env)).any (·.1) = false := by rfl) :
    PI X (.Tuple elts kk tpos) (.Call (.Name "zip" p) [e, e2] [] pos) (iZipX ta) := by
  refine ⟨fun pins s σ H R I h => ?_⟩
  refine Call_ (ld_blt I hg hm PyProof.Rows.boot_zip (PyProof.Rows.callWith_type1 (thn (ha.run pos pins s σ H _ I h) fun us s1 ⟨vs, H1, I1, r1, q1⟩ => ?_) hs hpl))
  obtain ⟨l, m, ex, q0⟩ := q1
  subst ex
  have q : R (Itw (min (S l).cps.size (S m).cps.size) fun i xs => ∃ c d, (S l).cps[i]? = some c ∧ (S m).cps[i]? = some d ∧ xs = [V.str ⟨#[c]⟩, .str ⟨#[d]⟩]) H1 := by
    rw [itzx_S]; exact q0
  cases r1 with
  | cons r rr =>
    cases rr with
    | cons r2 rr =>
      cases rr
      obtain ⟨t, rfl⟩ := r
      obtain ⟨t2, rfl⟩ := r2
      refine zip_begins2 (begins_text (S l) t) (begins_text (S m) t2) trivial trivial fun h' hz hTI hTO h0 h1 hsz hk => wpAny_pyIter_zip hz ?_
      have I2 : Inv X pins σ H1 { s1 with heap := h' } := I1.kept (t' := s1.toks) hk
      refine ⟨s1.heap.objs.size + 4, _, _, _, H1, rfl, I2,
        turn_walksT (n := min (S l).cps.size (S m).cps.size)
          (fun A hA => WalksT.zipD2 (zip_sep2 (N := s1.heap.objs.size) (fp1 := []) (fp2 := []) (by simp) (by simp)) (Draws.text (A := A.in1) hA s1.heap.objs.size (S l) t) (Draws.text (A := A.in1) hA (s1.heap.objs.size + 1) (S m) t2)) (by simp)
          (fun i h st b hb => ?_) (fun i vals hp => ?_) (fun A i s Q E st hq => ?_), ⟨hz, hTI, ⟨_, _, hTO⟩, ⟨_, h0, rfl, rfl⟩, ⟨_, h1, rfl, rfl⟩⟩, fun b hb => ?_, q⟩
      · obtain ⟨hz', ho2, ⟨a1, a2, ho3⟩, ⟨o, ho, hc, hd⟩, ⟨o', ho', hc', hd'⟩⟩ := st
        have e' : b = s1.heap.objs.size + 4 ∨ b = s1.heap.objs.size + 2 ∨ b = s1.heap.objs.size + 3 ∨ b = s1.heap.objs.size ∨ b = s1.heap.objs.size + 1 := by simpa using hb
        rcases e' with z | z | z | z | z
        · rw [z]; exact ⟨_, hz', fun v q => nomatch q⟩
        · rw [z]; exact ⟨_, ho2, fun v q => nomatch q⟩
        · rw [z]; exact ⟨_, ho3, fun v q => nomatch q⟩
        · rw [z]; exact ⟨o, ho, fun v q => by rw [hd] at q; cases q⟩
        · rw [z]; exact ⟨o', ho', fun v q => by rw [hd'] at q; cases q⟩
      · obtain ⟨v1, v2, ⟨c, u, hc, rfl⟩, ⟨d, u2, hd, rfl⟩, rfl⟩ := hp
        exact ⟨by show 2 ≤ sizeLine; decide, [.str ⟨#[c]⟩, .str ⟨#[d]⟩], .cons ⟨_, rfl⟩ (.cons ⟨_, rfl⟩ .nil), c, d, hc, hd, rfl⟩
      · exact wpAny_pyIter_zip st.1 hq
      · have e' : b = s1.heap.objs.size + 4 ∨ b = s1.heap.objs.size + 2 ∨ b = s1.heap.objs.size + 3 ∨ b = s1.heap.objs.size ∨ b = s1.heap.objs.size + 1 := by simpa using hb
        have hle : s1.heap.objs.size ≤ b := by
          rcases e' with z | z | z | z | z <;> rw [z] <;> first | exact Nat.le_refl _ | exact Nat.le_add_right _ _
        exact I1.fpOk hle (I1.hok.fresh hle)
end
end Lt
/-! Lt2: operators, subscripts, slices, lengths, walks, isinstance by values, whatever kind the values are of; the drawing list. -/
namespace Lt
open PySem PySem.Spec PyProof.Rows L2 Evl
open SX (S)

theorem OpR.orr {X : Cx} {f : Value → Value → Sem Value} {r r' : R2} (h : OpR X f r) (h' : OpR X f r') : OpR X f (fun x y H Q => r x y H Q ∨ r' x y H Q) := by
  intro pins s σ H x y v u Q I rx ry q
  rcases q with q | q
  · exact h pins s σ H x y v u Q I rx ry q
  · exact h' pins s σ H x y v u Q I rx ry q
theorem OpR.wk {X : Cx} {f : Value → Value → Sem Value} {r r' : R2} (h : OpR X f r) (w : ∀ x y H Q, r' x y H Q → r x y H Q) : OpR X f r' := by
  intro pins s σ H x y v u Q I rx ry q
  exact h pins s σ H x y v u Q I rx ry (w _ _ _ _ q)
theorem CallR.wk {X : Cx} {f : Value} {r r' : List V → Hp → VK → Prop} (h : CallR X f r) (w : ∀ xs H Q, r' xs H Q → r xs H Q) : CallR X f r' := by
  intro pins s σ H xs us Q I rx q
  exact h pins s σ H xs us Q I rx (w _ _ _ q)
theorem SlR.wk {X : Cx} {r r' : V → Option Int → Option Int → Hp → VK → Prop} (h : L2.SlR X r) (w : ∀ x lo hi H Q, r' x lo hi H Q → r x lo hi H Q) : L2.SlR X r' := by
  intro pins s σ H x v vl vu lo hi sl Q I rx hs pl pu q
  exact h pins s σ H x v vl vu lo hi sl Q I rx hs pl pu (w _ _ _ _ _ q)
theorem IxR.wk {X : Cx} {r r' : R2} (h : IxR X r) (w : ∀ x y H Q, r' x y H Q → r x y H Q) : IxR X r' := by
  intro value slice pins s σ H x y v u Q I rx ry q
  exact h value slice pins s σ H x y v u Q I rx ry (w _ _ _ _ q)

section
variable {X : Cx}
/-! ### + -/
def rAddI : R2 := rI0 fun i j => .int (i + j)
def rAddT : R2 := fun x y H Q => ∃ a b, x = Tx a ∧ y = Tx b ∧ a.length + b.length ≤ sizeLine ∧ Q (Tx (a ++ b)) H
theorem op_addT : OpR X (binaryOp .Add) rAddT := OpR.wk op_add_str fun x y H Q ⟨a, b, ex, ey, hl, q⟩ =>
  ⟨S a, S b, ex, ey, by rw [SX.S_len, SX.S_len]; exact hl, by rw [SX.S_cat]; exact q⟩
/-- a new object o at p, all else as it was -/
def New (H : Hp) (o : HO) (Q : VK) : Prop := ∀ (p : Addr) (H2 : Hp), H p = none → Ex H H2 → H2 p = some o → Q (.ref p) H2
theorem New.upd {H : Hp} {o : HO} {Q : VK} (h : New H o Q) : ∀ p, H p = none → Q (.ref p) (upd H p o) := fun p hp => h p _ hp (Ex.new hp) upd_same
def rCatX : R2 := fun x y H Q => ∃ l b xs zs, x = .ref l ∧ y = .ref b ∧ H l = some (.lst xs) ∧ H b = some (.lst zs) ∧ xs.length + zs.length ≤ sizeLine ∧ New H (.lst (xs ++ zs)) Q
theorem op_catX : OpR X (binaryOp .Add) rCatX := OpR.wk op_cat fun x y H Q ⟨l, b, xs, zs, e1, e2, h1, h2, hl, q⟩ => ⟨l, b, xs, zs, e1, e2, h1, h2, hl, q.upd⟩
/-- tuple + tuple: told as if it were always new, wherever that is all that's used -/
def rCatTX : R2 := fun x y H Q => ∃ a b xs ys, x = .ref a ∧ y = .ref b ∧ H a = some (.tup xs) ∧ H b = some (.tup ys) ∧ xs.length + ys.length ≤ sizeLine ∧ ∀ p H2, Ex H H2 → H2 p = some (.tup (xs ++ ys)) → Q (.ref p) H2
theorem op_catTX : OpR X (binaryOp .Add) rCatTX := OpR.wk (r := rCatA X.K) op_catA fun x y H Q ⟨a, b, xs, ys, e1, e2, h1, h2, hl, q⟩ =>
  ⟨a, b, xs, ys, e1, e2, SqT.of h1, SqT.of h2, hl, fun h => q b H (Ex.refl H) (by rw [h2, h]; rfl), fun _ h => q a H (Ex.refl H) (by rw [h1, h, List.append_nil]), fun _ _ p hp => q p _ (Ex.new hp) upd_same⟩
def rAddU : R2 := fun x y H Q => rAddI x y H Q ∨ rAddT x y H Q ∨ rCatX x y H Q ∨ rCatTX x y H Q
theorem op_addU : OpR X (binaryOp .Add) rAddU := OpR.orr op_add (OpR.orr op_addT (OpR.orr op_catX op_catTX))
/-! ### comparisons -/
def rLtU : R2 := fun x y H Q => (∃ i j, x = .int i ∧ y = .int j ∧ Q (.bl (decide (i < j))) H) ∨ ∃ a b, x = Tx a ∧ y = Tx b ∧ Q (.bl (decide (a < b))) H
theorem op_ltU : OpR X (compareOp .Lt) rLtU := OpR.orr op_lt (OpR.wk op_lt_str fun x y H Q ⟨a, b, ex, ey, q⟩ => ⟨S a, S b, ex, ey, by rw [S_cps, S_cps]; exact q⟩)
def rGtU : R2 := fun x y H Q => (∃ i j, x = .int i ∧ y = .int j ∧ Q (.bl (decide (j < i))) H) ∨ ∃ a b, x = Tx a ∧ y = Tx b ∧ Q (.bl (decide (b < a))) H
theorem op_gtU : OpR X (compareOp .Gt) rGtU := OpR.orr op_gt (OpR.wk op_gt_str fun x y H Q ⟨a, b, ex, ey, q⟩ => ⟨S a, S b, ex, ey, by rw [S_cps, S_cps]; exact q⟩)
def rLeU : R2 := fun x y H Q => (∃ i j, x = .int i ∧ y = .int j ∧ Q (.bl (decide (i ≤ j))) H) ∨ ∃ a b, x = Tx a ∧ y = Tx b ∧ Q (.bl (!decide (b < a))) H
theorem op_leU : OpR X (compareOp .LtE) rLeU := OpR.orr op_le (OpR.wk op_le_str fun x y H Q ⟨a, b, ex, ey, q⟩ => ⟨S a, S b, ex, ey, by rw [S_cps, S_cps]; exact q⟩)
def rGeU : R2 := fun x y H Q => (∃ i j, x = .int i ∧ y = .int j ∧ Q (.bl (decide (j ≤ i))) H) ∨ ∃ a b, x = Tx a ∧ y = Tx b ∧ Q (.bl (!decide (a < b))) H
theorem op_geU : OpR X (compareOp .GtE) rGeU := OpR.orr op_ge (OpR.wk op_ge_str fun x y H Q ⟨a, b, ex, ey, q⟩ => ⟨S a, S b, ex, ey, by rw [S_cps, S_cps]; exact q⟩)
/-- == of texts, ints, other flat things; of data -/
def rEqU (K : PySem.W.Frag) : R2 := fun x y H Q => (∃ i j, x = .int i ∧ y = .int j ∧ Q (.bl (decide (i = j))) H) ∨ (∃ a b, x = Tx a ∧ y = Tx b ∧ Q (.bl (decide (a = b))) H) ∨ rEq x y H Q ∨
  ∃ d e, Dp K H x d ∧ Dp K H y e ∧ SeqAt.shaped d = true ∧ SeqAt.shaped e = true ∧ Q (.bl (PyData.eqv d e)) H
theorem op_eqU (hu : X.A.units + 64 < cLine) : OpR X (compareOp .Eq) (rEqU X.K) := OpR.orr (OpR.wk op_eq fun x y H Q ⟨i, j, ex, ey, q⟩ => by
    subst ex ey
    refine ⟨rfl, ?_⟩
    have e : decide (V.int i = V.int j) = decide (i = j) := by by_cases h : i = j <;> simp [h]
    rw [e]; exact q)
  (OpR.orr (OpR.wk op_eq fun x y H Q ⟨i, j, ex, ey, q⟩ => by
    subst ex ey
    refine ⟨rfl, ?_⟩
    rw [tx_dec]; exact q) (OpR.orr op_eq (op_eqD hu)))
def rNeU (K : PySem.W.Frag) : R2 := fun x y H Q => (∃ i j, x = .int i ∧ y = .int j ∧ Q (.bl (!decide (i = j))) H) ∨ (∃ a b, x = Tx a ∧ y = Tx b ∧ Q (.bl (!decide (a = b))) H) ∨ rNe x y H Q ∨
  ∃ d e, Dp K H x d ∧ Dp K H y e ∧ SeqAt.shaped d = true ∧ SeqAt.shaped e = true ∧ Q (.bl (!PyData.eqv d e)) H
theorem op_neU (hu : X.A.units + 64 < cLine) : OpR X (compareOp .NotEq) (rNeU X.K) := OpR.orr (OpR.wk op_ne fun x y H Q ⟨i, j, ex, ey, q⟩ => by
    subst ex ey
    refine ⟨rfl, ?_⟩
    have e : decide (V.int i = V.int j) = decide (i = j) := by by_cases h : i = j <;> simp [h]
    rw [e]; exact q)
  (OpR.orr (OpR.wk op_ne fun x y H Q ⟨i, j, ex, ey, q⟩ => by
    subst ex ey
    refine ⟨rfl, ?_⟩
    rw [tx_dec]; exact q) (OpR.orr op_ne (op_neD hu)))
/-- in: a sign in a text; a flat thing in a list or a tuple -/
def rInU (K : PySem.W.Frag) : R2 := fun x y H Q => (∃ c l, x = Tx [c] ∧ y = Tx l ∧ Q (.bl (decide (c ∈ l))) H) ∨ rIn K false x y H Q
theorem op_inU : OpR X (compareOp .In) (rInU X.K) := OpR.orr (OpR.wk op_in_sign fun x y H Q ⟨c, l, ex, ey, q⟩ => ⟨c, S l, ex, ey, by rw [S_cps]; exact q⟩) op_in_seq
def rNotInU (K : PySem.W.Frag) : R2 := fun x y H Q => (∃ c l, x = Tx [c] ∧ y = Tx l ∧ Q (.bl (!decide (c ∈ l))) H) ∨ rIn K true x y H Q
theorem op_notInU : OpR X (compareOp .NotIn) (rNotInU X.K) := OpR.orr (OpR.wk op_notIn_sign fun x y H Q ⟨c, l, ex, ey, q⟩ => ⟨c, S l, ex, ey, by rw [S_cps]; exact q⟩) op_notIn_seq
/-! ### subscripts, slices, len -/
def rIxX : R2 := fun x y H Q => ∃ l i c, x = Tx l ∧ y = .int i ∧ l.length ≤ sizeLine ∧ atI l i = some c ∧ Q (Tx [c]) H
def rIxU (K : PySem.W.Frag) : R2 := fun x y H Q => rIxX x y H Q ∨ rIxT K x y H Q ∨ rIxL K x y H Q
theorem ix_U : IxR X (rIxU X.K) := IxR.wk ix_seq fun x y H Q h => by
  rcases h with ⟨l, i, c, ex, ey, hl, ha, q⟩ | h | h
  · exact .inr (.inr ⟨S l, i, c, ex, ey, by rw [SX.S_len]; exact hl, by rw [S_cps]; exact ha, q⟩)
  · exact .inr (.inl h)
  · exact .inl h
def cutL {α : Type} (l : List α) (lo hi : Option Int) : List α := (l.drop (HT.sIx l.length 0 lo)).take (HT.sIx l.length l.length hi - HT.sIx l.length 0 lo)
theorem cutL_length {α : Type} (l : List α) (lo hi : Option Int) : (cutL l lo hi).length ≤ l.length := by
  unfold cutL
  rw [List.length_take, List.length_drop]
  omega
theorem cutS_S (l : List Nat) (lo hi : Option Int) : cutS (S l) lo hi = S (cutL l lo hi) := by
  unfold cutS cutL
  rw [S_cps, SX.S_len]
def rSlX : V → Option Int → Option Int → Hp → VK → Prop := fun x lo hi H Q => ∃ l, x = Tx l ∧ l.length ≤ sizeLine ∧ Q (Tx (cutL l lo hi)) H
theorem sl_X : L2.SlR X rSlX := SlR.wk sl_str fun x lo hi H Q ⟨l, ex, hl, q⟩ => ⟨S l, ex, by rw [SX.S_len]; exact hl, by rw [cutS_S]; exact q⟩
def rSlLX : V → Option Int → Option Int → Hp → VK → Prop := fun x lo hi H Q => ∃ a xs, x = .ref a ∧ H a = some (.lst xs) ∧ New H (.lst (cutL xs lo hi)) Q
theorem sl_LX : L2.SlR X rSlLX := SlR.wk (r := rSlL X.K) sl_list fun x lo hi H Q ⟨a, xs, e, h, q⟩ => ⟨a, xs, e, SqL.of h, q.upd⟩
def rSlTX : V → Option Int → Option Int → Hp → VK → Prop := fun x lo hi H Q => ∃ a xs, x = .ref a ∧ H a = some (.tup xs) ∧ ∀ p H2, Ex H H2 → H2 p = some (.tup (cutL xs lo hi)) → Q (.ref p) H2
theorem cut_whole {α : Type} {xs : List α} {lo hi : Option Int} (h : HT.sIx xs.length 0 lo = 0 ∧ HT.sIx xs.length xs.length hi = xs.length) : cutL xs lo hi = xs := by
  unfold cutL
  rw [h.1, h.2, List.drop_zero, Nat.sub_zero, List.take_length]
theorem sl_TX : L2.SlR X rSlTX := SlR.wk (r := rSlA X.K) sl_tupA fun x lo hi H Q ⟨a, xs, e, h, q⟩ => ⟨a, xs, e, SqT.of h, fun c => q a H (Ex.refl H) (by rw [h, cut_whole c]), fun _ p hp => q p _ (Ex.new hp) upd_same⟩
def rSlU : V → Option Int → Option Int → Hp → VK → Prop := fun x lo hi H Q => rSlX x lo hi H Q ∨ rSlLX x lo hi H Q ∨ rSlTX x lo hi H Q
theorem sl_U : L2.SlR X rSlU := SlR.or sl_X (SlR.or sl_LX sl_TX)
/-- (a, b), [a, b] -/
def tTupX (t : TA) : TE := fun σ H Q => t σ H fun xs H1 => xs.length ≤ sizeLine ∧ New H1 (.tup xs) Q
def tLstX (t : TA) : TE := fun σ H Q => t σ H fun xs H1 => xs.length ≤ sizeLine ∧ New H1 (.lst xs) Q
theorem pe_tupX {es : List Expr} {t : TA} {x1 pos} (h : PA X es t) : PE X (.Tuple es x1 pos) (tTupX t) := by
  refine ⟨fun pins s σ H Q I hq => ?_⟩
  refine wpAny_Tuple_spliced (thn (h.run pos pins s σ H _ I hq) fun us s1 ⟨xs, H1, I1, r, z, q⟩ => ⟨by rw [← r.length]; exact z, ?_⟩)
  have hf : H1 s1.heap.objs.size = none := I1.hok.fresh (Nat.le_refl _)
  refine ⟨.ref s1.heap.objs.size, upd H1 s1.heap.objs.size (.tup xs), I1.laid (t' := s1.toks) (fun b u e => Heap.get?_push_of_some _ e) (Nat.le_refl _) ?_, rfl, q.upd _ hf⟩
  exact ⟨z, us, r, ⟨_, Heap.get?_push_size _ rfl, rfl, _, rfl⟩⟩
theorem pe_lstX {es : List Expr} {t : TA} {pos} (h : PA X es t) : PE X (.List es pos) (tLstX t) := by
  refine ⟨fun pins s σ H Q I hq => ?_⟩
  refine wpAny_List_spliced (thn (h.run pos pins s σ H _ I hq) fun us s1 ⟨xs, H1, I1, r, z, q⟩ => ⟨by rw [← r.length]; exact z, ?_⟩)
  have hf : H1 s1.heap.objs.size = none := I1.hok.fresh (Nat.le_refl _)
  refine ⟨.ref s1.heap.objs.size, upd H1 s1.heap.objs.size (.lst xs), I1.laid (t' := s1.toks) (fun b u e => Heap.get?_push_of_some _ e) (Nat.le_refl _) ?_, rfl, q.upd _ hf⟩
  exact ⟨z, us, 0, r, Heap.get?_push_size _ rfl⟩
def rLenU (K : PySem.W.Frag) : List V → Hp → VK → Prop := fun xs H Q => (∃ l, xs = [Tx l] ∧ l.length ≤ sizeLine ∧ Q (.int (l.length : Int)) H) ∨
  (∃ p ys, xs = [.ref p] ∧ (SqL K H p ys ∨ SqT K H p ys) ∧ Q (.int ys.length) H)
theorem call_lenU : CallR X (.builtin "len") (rLenU X.K) := CallR.or (CallR.wk call_len_str fun xs H Q ⟨l, ex, hl, q⟩ => ⟨S l, ex, by rw [SX.S_len]; exact hl, by rw [SX.S_len]; exact q⟩) call_len_seq
/-- text[::-1] -/
def tRevX (te : TE) : TE := fun σ H Q => te σ H fun x H1 => ∃ l, x = Tx l ∧ l.length ≤ sizeLine ∧ Q (Tx l.reverse) H1
theorem rev_idx (n : Nat) : Builtin.Str.strSliceIndices none none (-1) n = (List.range n).reverse := by
  have h := PySem.W.krv_sliceRange n
  unfold Builtin.Str.strSliceIndices
  simp only [show ¬ ((-1 : Int) > 0) by decide, if_false]
  rw [h, PySem.W.krv_range]
theorem pe_revX {e : Expr} {te : TE} {k : Nat} {p1 p2 p3 pos : Pos} (he : PE X e te) : PE X (.Subscript e (.Slice none none (some (.UnaryOp .USub (.Constant (.int 1) k p1) p2)) p3) pos) (tRevX te) := by
  refine ⟨fun pins s σ H Q I h => ?_⟩
  refine Subscript_ (thn (he.run pins s σ H _ I h) fun v s1 ⟨x, H1, I1, r1, q1⟩ => ?_)
  obtain ⟨z, ex, hz, q⟩ := q1
  subst ex
  obtain ⟨t, rfl⟩ := r1
  have hst : PO X (some (.UnaryOp .USub (.Constant (.int 1) k p1) p2)) (tPart (tUn (rU fun i => .int (-i)) (tC (.int 1)))) := po_some (pe_un un_neg pe_int)
  refine wpAny_Slice (thn (po_none.run pins s1 σ H1 (fun o H2 => o = none ∧ H2 = H1) I1 ⟨rfl, rfl⟩) fun vl s2 ⟨l, H2, I2, pl, el, e2⟩ => ?_)
  subst el e2
  refine thn (po_none.run pins s2 σ H2 (fun o H3 => o = none ∧ H3 = H2) I2 ⟨rfl, rfl⟩) fun vu s3 ⟨u, H3, I3, pu, eu, e3⟩ => ?_
  subst eu e3
  refine thn (hst.run pins s3 σ H3 (fun o H4 => o = some (-1) ∧ H4 = H3) I3 ⟨1, rfl, -1, rfl, rfl, rfl⟩) fun vs s4 ⟨o, H4, I4, ps, eo, e4⟩ => ?_
  subst eo e4
  have I5 : Inv X pins σ H4 { s4 with heap := s4.heap.push { cls := .type "slice", data := .fields #[vl, vu, vs] } } := I4.kept (t' := s4.toks) fun b ob q => Heap.get?_push_of_some _ q
  obtain ⟨l', rfl, el⟩ := IsPart.raw pl
  obtain ⟨u', rfl, eu⟩ := IsPart.raw pu
  obtain ⟨st', rfl, e5⟩ := IsPart.raw ps
  cases l' with
  | some _ => cases el
  | none =>
  cases u' with
  | some _ => cases eu
  | none =>
  cases st' with
  | none => cases e5
  | some st' =>
  have e5 : st'.1 = -1 := Option.some.inj e5
  show wpAny (model X.prog X.w) X.A (subscriptTail e (.Slice none none (some (.UnaryOp .USub (.Constant (.int 1) k p1) p2)) p3) (.str (S z) t) (.ref s4.heap.objs.size)) (EP X pins σ Q) X.xe _
  refine tail_any (ops := [.str (S z) t, .ref s4.heap.objs.size]) (typeIs_str _ _ _) (F.slot_str_getitem.lookup) ?_ (by with_unfolding_all rfl)
  refine wpAny_getItem_str_slice (l := none) (u := none) (st := some st') ⟨_, Heap.get?_push_size _ rfl, rfl, rfl⟩ (by show (st'.1 == 0) = false; rw [e5]; rfl) ?_
  unfold sliceMade
  show Made.post (if ((st'.1 == 1) && (Builtin.Str.strSliceIndices none none st'.1 (S z).length).length == (S z).length) = true then Made.val (.str (S z) t)
    else Made.str ⟨((Builtin.Str.strSliceIndices none none st'.1 (S z).length).filterMap ((S z).cps[·]?)).toArray⟩) (EP X pins σ Q) _
  rw [e5, show ((-1 : Int) == 1) = false from rfl, Bool.false_and, if_neg Bool.false_ne_true, rev_idx, List.filterMap_reverse]
  have hall : (List.range (S z).length).filterMap ((S z).cps[·]?) = z := by
    have h := PySem.W.krv_all (S z).cps
    rw [S_cps] at h
    exact h
  rw [hall]
  exact ⟨by show z.reverse.toArray.size ≤ sizeLine; rw [List.size_toArray, List.length_reverse]; exact hz, Tx z.reverse, _, I5.tok _, ⟨_, rfl⟩, q⟩

/-! ### walks -/
def Itx (l : List Nat) : It := Its (S l)
theorem walk_tx {l : List Nat} : Walk (Itx l) l.length (fun _ => True) (fun i H v H' => H' = H ∧ ∃ c, l[i]? = some c ∧ v = Tx [c]) := by
  have w := walk_str (z := S l)
  rw [S_size] at w
  refine w.mono (fun _ h => h) fun i H v H' _ _ ⟨e, c, hc, hv⟩ => ⟨e, c, ?_, hv⟩
  rw [← hc]; simp [S]
def iAny (K : PySem.W.Frag) (te : TE) : TI := fun σ H R => te σ H fun v H1 => (∃ l, v = Tx l ∧ R (Itx l) H1) ∨ (∃ a xs, v = .ref a ∧ SqT K H1 a xs ∧ R (Itt K a) H1) ∨ (∃ a xs, v = .ref a ∧ SqL K H1 a xs ∧ R (Itl K a) H1)
theorem pi_any {tg e : Expr} {te : TE} (he : PE X e te) : PI X tg e (iAny X.K te) := by
  refine ⟨fun pins s σ H R I h => ?_⟩
  refine thn (he.run pins s σ H _ I h) fun v s1 ⟨y, H1, I1, r1, q1⟩ => ?_
  rcases q1 with ⟨l, ex, q⟩ | ⟨a, xs, e, hq, q⟩ | ⟨a, xs, e, hq, q⟩
  · subst ex
    obtain ⟨t, rfl⟩ := r1
    cases ha : (S l).cps.all (· < 128)
    · exact wpAny_pyIter_wide ha (pi_one (tk := s1.toks) I1 _ (turn_str _ (S l) t "str_iterator" (.inr rfl)) ⟨_, Heap.get?_push_size _ rfl, rfl, rfl⟩ q)
    · exact wpAny_pyIter_ascii ha (pi_one (tk := s1.toks) I1 _ (turn_str _ (S l) t "str_ascii_iterator" (.inl rfl)) ⟨_, Heap.get?_push_size _ rfl, rfl, rfl⟩ q)
  · subst e
    cases r1
    obtain ⟨its, rv, p, hz⟩ := I1.tuple hq
    refine wpAny_pyIter_tuple (show s1.heap.IsTuple a its.toArray from p) ?_
    refine ⟨s1.heap.objs.size, [s1.heap.objs.size], _, _, H1, rfl, I1.kept (t' := s1.toks) fun b o e => Heap.get?_push_of_some _ e, turn_tuple a _, ⟨_, Heap.get?_push_size _ rfl, rfl, rfl⟩, fun b hb => ?_, q⟩
    have e : b = s1.heap.objs.size := by simpa using hb
    subst e
    exact I1.fpOk (Nat.le_refl _) (I1.hok.fresh (Nat.le_refl _))
  · subst e
    cases r1
    obtain ⟨its, rv, p, hz⟩ := I1.list hq
    refine wpAny_pyIter_list p.isList ?_
    refine ⟨s1.heap.objs.size, [s1.heap.objs.size], _, _, H1, rfl, I1.kept (t' := s1.toks) fun b o e => Heap.get?_push_of_some _ e, turn_list a _, ⟨_, Heap.get?_push_size _ rfl, rfl, rfl⟩, fun b hb => ?_, q⟩
    have e : b = s1.heap.objs.size := by simpa using hb
    subst e
    exact I1.fpOk (Nat.le_refl _) (I1.hok.fresh (Nat.le_refl _))
/-- a new tuple is given -/
def YNew (R : Nat → List V → Prop) : Nat → Hp → V → Hp → Prop := fun i H v H' => ∃ T xs, v = .ref T ∧ H T = none ∧ Ex H H' ∧ H' T = some (.tup xs) ∧ R i xs
theorem walk_w {n : Nat} {R : Nat → List V → Prop} : Walk (Itw n R) n (fun _ => True) (YNew R) :=
  ⟨fun _ _ hi _ => hi, fun _ _ => rfl, fun _ _ _ _ _ _ ⟨T, xs, e, hT, hH, r⟩ => ⟨T, xs, e, hT, by rw [hH]; exact Ex.new hT, by rw [hH]; exact upd_same, r⟩⟩

/-! ### isinstance -/
inductive Tg (H : Hp) : V → String → Prop where
  | non : Tg H .non "NoneType"
  | bl (b : Bool) : Tg H (.bl b) "bool"
  | int (i : Int) : Tg H (.int i) "int"
  | str (x : Str) : Tg H (.str x) "str"
  | lst {a xs} (h : H a = some (.lst xs)) : Tg H (.ref a) "list"
  | tup {a xs} (h : H a = some (.tup xs)) : Tg H (.ref a) "tuple"
  | dK {a kvs} (h : H a = some (.dK kvs)) : Tg H (.ref a) "dict"
def isiB (t n : String) : Bool := t == n || (t == "bool" && n == "int")
theorem tg_ty {K : PySem.W.Frag} {H : Hp} {x : V} {t : String} (h : Tg H x t) : TyX K H x (.type t) := by
  cases h with
  | non => exact .base .non
  | bl b => exact .base (.bl b)
  | int i => exact .base (.int i)
  | str i => exact .base (.str i)
  | lst h => exact .base (.lst h)
  | tup h => exact .base (.tup h)
  | dK h => exact .base (.dK h)
theorem kit_tab {K : PySem.W.Frag} : ∀ t ∈ ["NoneType", "bool", "int", "str", "list", "tuple", "dict"], ∀ n ∈ ["int", "bool", "str", "tuple", "list"], PySem.W.kitOne K (.type t) (.type n) = some (isiB t n) := by
  intro t ht n hn
  simp only [List.mem_cons, List.not_mem_nil, or_false] at ht hn
  rcases ht with rfl | rfl | rfl | rfl | rfl | rfl | rfl <;> rcases hn with rfl | rfl | rfl | rfl | rfl <;> exact kit_ty (by decide +kernel)
def rIsU : List V → Hp → VK → Prop := fun xs H Q => ∃ x t n, xs = [x, .ty n] ∧ Tg H x t ∧ n ∈ ["int", "bool", "str", "tuple", "list"] ∧ Q (.bl (isiB t n)) H
theorem call_isU : CallR X (.builtin "isinstance") rIsU := CallR.wk call_isi fun xs H Q ⟨x, t, n, e, h, hn, q⟩ =>
  ⟨x, .ty n, .type t, .type n, _, e, .ty n, tg_ty h, kit_tab t (by cases h <;> simp) n hn, q⟩
end
end Lt
/-! Lt3: data on the heap (Rp), the drawing list as one object that stands still, the defs as they are called, steps of a reading. -/
namespace Lt
open PySem PySem.Spec PyProof.Rows L2 Evl
open SX (S)

/-! ### data -/
mutual
inductive Rp (H : Hp) : V → PyData → Prop
  | non : Rp H .non .none
  | bl (b : Bool) : Rp H (.bl b) (.bool b)
  | int (i : Int) : Rp H (.int i) (.int i)
  | str (x : Str) : Rp H (.str x) (.str x)
  | lst {a : Addr} {xs : List V} {ds : List PyData} : H a = some (.lst xs) → RpAll H xs ds → Rp H (.ref a) (.list ds)
  | tup {a : Addr} {xs : List V} {ds : List PyData} : H a = some (.tup xs) → RpAll H xs ds → Rp H (.ref a) (.tuple ds)
inductive RpAll (H : Hp) : List V → List PyData → Prop
  | nil : RpAll H [] []
  | cons {v : V} {vs : List V} {d : PyData} {ds : List PyData} : Rp H v d → RpAll H vs ds → RpAll H (v :: vs) (d :: ds)
end
mutual
theorem Rp.dp {K : PySem.W.Frag} {H : Hp} : ∀ {d : PyData} {v : V}, Rp H v d → Dp K H v d
  | .none, _, h => by cases h; exact .non
  | .bool b, _, h => by cases h; exact .bl b
  | .int b, _, h => by cases h; exact .int b
  | .str b, _, h => by cases h; exact .str b
  | .list ds, _, h => by
    cases h with
    | lst h1 h2 => exact .lst (SqL.of h1) (RpAll.dp h2)
  | .tuple ds, _, h => by
    cases h with
    | tup h1 h2 => exact .tup (SqT.of h1) (RpAll.dp h2)
  | .dict _, _, h => by cases h
theorem RpAll.dp {K : PySem.W.Frag} {H : Hp} : ∀ {ds : List PyData} {vs : List V}, RpAll H vs ds → DpAll K H vs ds
  | [], _, h => by cases h; exact .nil
  | d :: ds, _, h => by
    cases h with
    | cons h1 h2 => exact .cons (Rp.dp h1) (RpAll.dp h2)
end
mutual
theorem Rp.ex {H H' : Hp} (e : Ex H H') : ∀ {d : PyData} {v : V}, Rp H v d → Rp H' v d
  | .none, _, h => by cases h; exact .non
  | .bool b, _, h => by cases h; exact .bl b
  | .int b, _, h => by cases h; exact .int b
  | .str b, _, h => by cases h; exact .str b
  | .list ds, _, h => by
    cases h with
    | lst h1 h2 => exact .lst (e _ _ h1) (RpAll.ex e h2)
  | .tuple ds, _, h => by
    cases h with
    | tup h1 h2 => exact .tup (e _ _ h1) (RpAll.ex e h2)
  | .dict _, _, h => by cases h
theorem RpAll.ex {H H' : Hp} (e : Ex H H') : ∀ {ds : List PyData} {vs : List V}, RpAll H vs ds → RpAll H' vs ds
  | [], _, h => by cases h; exact .nil
  | d :: ds, _, h => by
    cases h with
    | cons h1 h2 => exact .cons (Rp.ex e h1) (RpAll.ex e h2)
end
mutual
def flatD : PyData → Bool
  | .list _ => false
  | .tuple ds => flatDs ds
  | .dict _ => false
  | _ => true
def flatDs : List PyData → Bool
  | [] => true
  | d :: ds => flatD d && flatDs ds
end
mutual
theorem Rp.exT {H H' : Hp} (e : ∀ b xs, H b = some (.tup xs) → H' b = some (.tup xs)) : ∀ {d : PyData} {v : V}, flatD d = true → Rp H v d → Rp H' v d
  | .none, _, _, h => by cases h; exact .non
  | .bool b, _, _, h => by cases h; exact .bl b
  | .int b, _, _, h => by cases h; exact .int b
  | .str b, _, _, h => by cases h; exact .str b
  | .list ds, _, f, h => by simp [flatD] at f
  | .tuple ds, _, f, h => by
    cases h with
    | tup h1 h2 => exact .tup (e _ _ h1) (RpAll.exT e (by simpa [flatD] using f) h2)
  | .dict _, _, _, h => by cases h
theorem RpAll.exT {H H' : Hp} (e : ∀ b xs, H b = some (.tup xs) → H' b = some (.tup xs)) : ∀ {ds : List PyData} {vs : List V}, flatDs ds = true → RpAll H vs ds → RpAll H' vs ds
  | [], _, _, h => by cases h; exact .nil
  | d :: ds, _, f, h => by
    cases h with
    | cons h1 h2 =>
      have f' : flatD d = true ∧ flatDs ds = true := by simpa [flatDs] using f
      exact .cons (Rp.exT e f'.1 h1) (RpAll.exT e f'.2 h2)
end
section
variable {H H' : Hp} {vs ws : List V} {ds es : List PyData} {v : V} {d : PyData}
theorem RpAll.length (h : RpAll H vs ds) : vs.length = ds.length := by
  induction ds generalizing vs with
  | nil => cases h; rfl
  | cons d ds ih => cases h with
    | cons h1 h2 => simp [ih h2]
theorem RpAll.append (h : RpAll H vs ds) (h' : RpAll H ws es) : RpAll H (vs ++ ws) (ds ++ es) := by
  induction ds generalizing vs with
  | nil => cases h; exact h'
  | cons d ds ih => cases h with
    | cons h1 h2 => exact .cons h1 (ih h2)
theorem RpAll.one (h : Rp H v d) : RpAll H [v] [d] := .cons h .nil
theorem RpAll.get {i : Nat} (h : RpAll H vs ds) (hd : ds[i]? = some d) : ∃ v, vs[i]? = some v ∧ Rp H v d := by
  induction ds generalizing vs i with
  | nil => simp at hd
  | cons e ds ih => cases h with
    | cons h1 h2 =>
      cases i with
      | zero => simp at hd; subst hd; exact ⟨_, rfl, h1⟩
      | succ i =>
        obtain ⟨v, hv, r⟩ := ih h2 (by simpa using hd)
        exact ⟨v, by simpa using hv, r⟩
theorem RpAll.get' {i : Nat} (h : RpAll H vs ds) (hv : vs[i]? = some v) : ∃ d, ds[i]? = some d ∧ Rp H v d := by
  have hi := (List.getElem?_eq_some_iff.mp hv).1
  rw [h.length] at hi
  obtain ⟨w, hw, r⟩ := h.get (List.getElem?_eq_getElem hi)
  rw [hv] at hw; cases hw
  exact ⟨_, List.getElem?_eq_getElem hi, r⟩
theorem rp_str {x : Str} (h : Rp H v (.str x)) : v = .str x := by cases h; rfl
theorem rp_int {i : Int} (h : Rp H v (.int i)) : v = .int i := by cases h; rfl
theorem rp_bool {b : Bool} (h : Rp H v (.bool b)) : v = .bl b := by cases h; rfl
theorem rp_none (h : Rp H v .none) : v = .non := by cases h; rfl
theorem rp_tup (h : Rp H v (.tuple ds)) : ∃ a xs, v = .ref a ∧ H a = some (.tup xs) ∧ RpAll H xs ds := by
  cases h with
  | tup h1 h2 => exact ⟨_, _, rfl, h1, h2⟩
theorem rp_lst (h : Rp H v (.list ds)) : ∃ a xs, v = .ref a ∧ H a = some (.lst xs) ∧ RpAll H xs ds := by
  cases h with
  | lst h1 h2 => exact ⟨_, _, rfl, h1, h2⟩
theorem rpall_nil (h : RpAll H vs []) : vs = [] := by cases h; rfl
theorem rpall_cons (h : RpAll H vs (d :: ds)) : ∃ v ws, vs = v :: ws ∧ Rp H v d ∧ RpAll H ws ds := by
  cases h with
  | cons h1 h2 => exact ⟨_, _, rfl, h1, h2⟩
theorem rpall_strs {H : Hp} : ∀ {l : List Str} {vs : List V}, RpAll H vs (l.map .str) → vs = l.map .str
  | [], _, h => rpall_nil h
  | x :: l, _, h => by
    obtain ⟨v, ws, rfl, h1, h2⟩ := rpall_cons h
    rw [rp_str h1, rpall_strs h2]; rfl
theorem strs_rpall : ∀ (l : List Str), RpAll H (l.map .str) (l.map .str)
  | [] => .nil
  | x :: l => .cons (.str x) (strs_rpall l)
theorem ints_rpall : ∀ (l : List Int), RpAll H (l.map .int) (l.map .int)
  | [] => .nil
  | x :: l => .cons (.int x) (ints_rpall l)
theorem rpall_ints {H : Hp} : ∀ {l : List Int} {vs : List V}, RpAll H vs (l.map .int) → vs = l.map .int
  | [], _, h => rpall_nil h
  | x :: l, _, h => by
    obtain ⟨v, ws, rfl, h1, h2⟩ := rpall_cons h
    rw [rp_int h1, rpall_ints h2]; rfl
end

/-! ### the drawing list: one object that stands still, whatever it holds -/
structure DiceOk (xs : List Int) : Prop where
  two : 2 ≤ xs.length
  most : xs.length ≤ 1000
  pos : ∀ x ∈ xs, 0 ≤ x
  seed : ∀ x, xs[0]? = some x → x < 2147483647
def DiceO (a : Addr) : HO := .ext fun h => ∃ (xs : List Int) (its : List Value) (n : Nat), DiceOk xs ∧ Vals (xs.map V.int) its ∧ h.get? a = some { cls := .type "list", data := .seq its.toArray n }
section
variable {X : Cx} {pins : List (Addr × Obj)} {σ : L2.St} {H : Hp} {s : Shared}
theorem Inv.openD {a : Addr} (I : L2.Inv X pins σ H s) (h : H a = some (DiceO a)) : ∃ xs, DiceOk xs ∧ L2.Inv X pins σ (upd H a (.lst (xs.map V.int))) s := by
  obtain ⟨⟨xs, its, n, ok, r, e⟩, _, _⟩ := I.hok a _ h
  have hl : (xs.map V.int).length ≤ sizeLine := by rw [List.length_map]; exact Nat.le_trans ok.most (by decide)
  exact ⟨xs, ok, I.write (t' := s.toks) (h' := s.heap) (e := a) (by rw [h]; exact trivial) (.inl rfl) (fun b u _ q => q) ⟨_, e⟩ ⟨hl, its, n, r, e⟩⟩
theorem Inv.closeD {a : Addr} {xs : List Int} (I : L2.Inv X pins σ H s) (h : H a = some (.lst (xs.map V.int))) (ok : DiceOk xs) : L2.Inv X pins σ (upd H a (DiceO a)) s := by
  obtain ⟨hl, its, n, r, e⟩ := I.hok a _ h
  exact I.write (t' := s.toks) (h' := s.heap) (e := a) (by rw [h]; exact trivial) (.inl rfl) (fun b u _ q => q) ⟨_, e⟩
    ⟨⟨xs, its, n, ok, r, e⟩, ⟨_, e⟩, fun h1 h2 ⟨xs, its, n, ok, r, e⟩ k => ⟨xs, its, n, ok, r, k _ e⟩⟩
/-- within, it is read and written as a list -/
def tOpen (t : TS) : TS := fun D σ H => ∃ a, H a = some (DiceO a) ∧ ∀ xs, DiceOk xs → t D σ (upd H a (.lst (xs.map V.int)))
theorem pss_open {sts : List Stmt} {t : TS} (h : PSs X sts t) : PSs X sts (tOpen t) := by
  refine ⟨fun pins s σ H D I q => ?_⟩
  obtain ⟨a, ha, q⟩ := q
  obtain ⟨xs, ok, J⟩ := Inv.openD I ha
  exact h.run pins s σ _ D J (q xs ok)
/-- what is wanted of a value and a heap in which it stands as a list -/
def closeK (Q : VK) : VK := fun v H' => ∃ a xs, H' a = some (.lst (xs.map V.int)) ∧ DiceOk xs ∧ Q v (upd H' a (DiceO a))
def tClose (t : TS) : TS := fun D σ H => t { D with nx := fun _ _ => False, rt := closeK D.rt, bk := fun _ _ => False, ct := fun _ _ => False } σ H
theorem pss_close {sts : List Stmt} {t : TS} (h : PSs X sts t) : PSs X sts (tClose t) := by
  refine ⟨fun pins s σ H D I q => ?_⟩
  refine thn (h.run pins s σ H _ I q) fun f s1 z => ?_
  cases f with
  | next => obtain ⟨_, _, _, z⟩ := z; exact z.elim
  | brk => obtain ⟨_, _, _, z⟩ := z; exact z.elim
  | cont => obtain ⟨_, _, _, z⟩ := z; exact z.elim
  | ret u =>
    obtain ⟨v, σ', H', I', r, a, xs, ha, ok, q⟩ := z
    exact ⟨v, σ', _, Inv.closeD I' ha ok, r, q⟩
end

/-! ### a def as it is called -/
structure Has (P : Program) (w : World) (K : PySem.W.Frag) (mg : Str → Option Value) (base : Heap) (CX : CXT) (k : Nat) (x : Str) (ps : List Str) (sp : Sp) : Prop where
  ex : ∃ (f : Addr) (fd : FuncData), mg x = some (.ref f) ∧ PySem.W.keepIn K (.ref f) = true ∧ Binds K fd ps [] ∧ FnOk P w K mg base CX k f fd ps sp
end Lt
/-! Lt4: list(..); the steps of a reading, one lemma a construct. -/
namespace Lt
open PySem PySem.Spec PyProof.Rows L2 Evl
open SX (S)

/-- list(text), list(list or tuple) -/
def rListU (K : PySem.W.Frag) : List V → Hp → VK → Prop := fun xs H Q => (∃ l, xs = [Tx l] ∧ l.length ≤ sizeLine ∧ New H (.lst (l.map fun c => Tx [c])) Q) ∨
  (∃ p ys, xs = [.ref p] ∧ (SqL K H p ys ∨ SqT K H p ys) ∧ New H (.lst ys) Q)
theorem signs_vals {l : List Nat} {acc : Array Value} (h : ItemsOf (SignAt (S l)) acc l.length) : Vals (l.map fun c => Tx [c]) acc.toList := by
  have e : acc.toList.length = l.length := by rw [Array.length_toList]; exact h.1
  have q := vals_of_get acc.toList (fun i => Tx [l.getD i 0]) fun j u hj => by
    obtain ⟨c, u', hc, rfl⟩ := h.2 j u (by rw [← hj, Array.getElem?_toList])
    have hc' : l[j]? = some c := by simpa [S] using hc
    refine ⟨u', ?_⟩
    rw [List.getD_eq_getElem?_getD, hc']
    rfl
  have e2 : (List.range acc.toList.length).map (fun i => Tx [l.getD i 0]) = l.map fun c => Tx [c] := by
    rw [e]
    refine List.ext_getElem (by simp) fun i h1 h2 => ?_
    simp at h2
    simp [List.getD_eq_getElem?_getD, h2]
  rw [← e2]
  exact q
theorem call_listS {X : Cx} (hc : X.calm = true) : CallR X (.type "list") (fun xs H Q => ∃ l, xs = [Tx l] ∧ l.length ≤ sizeLine ∧ ∀ p, H p = none → Q (.ref p) (upd H p (.lst (l.map fun c => Tx [c])))) := by
  intro pins s σ H xs us Q I r h
  obtain ⟨l, rfl, hl, q⟩ := h
  obtain ⟨u, rfl, t, rfl⟩ := vals1 r
  have hsz : (S l).cps.size ≤ sizeLine := by rw [S_size]; exact hl
  refine call_list_str (I.ok.hd hc) (S l) t (fun h' tk acc c' hk e hi => ?_) hsz
  rw [S_size] at hi
  refine ⟨.ref s.heap.objs.size, upd H s.heap.objs.size (.lst (l.map fun c => Tx [c])), I.laid hk (Nat.le_refl _) (show ObjOk X.prog X.w _ _ _ (.lst (l.map fun c => Tx [c])) from ⟨?_, acc.toList, c', signs_vals hi, ?_⟩), rfl, q _ (I.hok.fresh (Nat.le_refl _))⟩
  · rw [List.length_map]; exact hl
  · rw [Array.toArray_toList]; exact e
theorem call_listU {X : Cx} (hc : X.calm = true) : CallR X (.type "list") (rListU X.K) := CallR.wk (CallR.or (call_listS hc) call_list_of) fun xs H Q h => by
  rcases h with ⟨l, e, hl, q⟩ | ⟨p, ys, e, h, q⟩
  · exact .inl ⟨l, e, hl, q.upd⟩
  · exact .inr ⟨p, ys, e, h, q.upd⟩
/-- x.join(list or tuple of texts) -/
def rJoinX (K : PySem.W.Frag) : V → List V → Hp → VK → Prop := fun x xs H Q => ∃ a p, ∃ ys : List (List Nat), x = Tx a ∧ xs = [.ref p] ∧ (SqL K H p (ys.map fun l => Tx l) ∨ SqT K H p (ys.map fun l => Tx l)) ∧
  (ys.map (·.length)).sum + ys.length * a.length ≤ 16777216 ∧ Q (Tx (TL.joinL a ys)) H
theorem MtR.wk {X : Cx} {id : String} {r r' : V → List V → Hp → VK → Prop} (h : MtR X id r) (w : ∀ x xs H Q, r' x xs H Q → r x xs H Q) : MtR X id r' := by
  intro pins s σ H x xs v us Q I rx rr q
  exact h pins s σ H x xs v us Q I rx rr (w _ _ _ _ q)
theorem mt_joinX {X : Cx} : MtR X "str.join" (rJoinX X.K) := MtR.wk mt_join fun x xs H Q ⟨a, p, ys, ex, exs, hq, hz, q⟩ => by
  have e : ys.map (fun l => Tx l) = (ys.map S).map V.str := by rw [List.map_map]; rfl
  rw [e] at hq
  refine ⟨S a, p, ys.map S, ex, exs, hq, ?_, ?_⟩
  · rw [SX.lens, List.length_map, SX.S_len]; exact hz
  · rw [SX.join_S]; exact q

/-- a constant of the module -/
theorem pe_gc {X : Cx} {x : Str} {v : V} {pos : Pos} (hg : Gl X x) (hm : ∃ u, X.mg x = some u ∧ RelV v u) (hd : (x == ("__debug__" : Str)) = false := by decide) : PE X (.Name x pos) (tC v) := by
  obtain ⟨u, hu, r⟩ := hm
  exact pe_glob hg hu r hd
section
variable {σ : L2.St} {H H' : Hp} {D : Ends} {te ta tb : TE} {tt : TT} {t u : TS} {Q : VK} {K : PySem.W.Frag} {v x y : V} {i j : Int} {a b l : List Nat} {p : Addr} {xs ys : List V}
/-! ### statements -/
theorem w_nx {f : L2.St → Hp → Prop} {r : VK} {b c : L2.St → Hp → Prop} (h : f σ H) : Ends.nx ⟨f, r, b, c⟩ σ H := h
theorem w_rt {f : L2.St → Hp → Prop} {r : VK} {b c : L2.St → Hp → Prop} (h : r v H) : Ends.rt ⟨f, r, b, c⟩ v H := h
theorem w_bk {f : L2.St → Hp → Prop} {r : VK} {b c : L2.St → Hp → Prop} (h : b σ H) : Ends.bk ⟨f, r, b, c⟩ σ H := h
theorem w_ct {f : L2.St → Hp → Prop} {r : VK} {b c : L2.St → Hp → Prop} (h : c σ H) : Ends.ct ⟨f, r, b, c⟩ σ H := h
theorem w_seq (h : t { D with nx := u D } σ H) : tSeq t u D σ H := h
theorem w_next (h : D.nx σ H) : tNext D σ H := h
theorem w_asg {g : TG} (h : te σ H fun x H1 => g x σ H1 D.nx) : tAsg te g D σ H := h
theorem w_name {k : Nat} {Q : L2.St → Hp → Prop} (h : Q (σ.set k (some v)) H) : gName k v σ H Q := h
theorem w_ret (h : te σ H D.rt) : tRet te D σ H := h
theorem w_retN (h : D.rt .non H) : tRetN D σ H := h
theorem w_drop (h : te σ H fun _ H1 => D.nx σ H1) : tDrop te D σ H := h
theorem w_break (h : D.bk σ H) : tBreak D σ H := h
theorem w_cont (h : D.ct σ H) : tCont D σ H := h
theorem w_ifS (h : tt σ H fun b H1 => if b = true then t D σ H1 else u D σ H1) : tIfS tt t u D σ H := h
theorem w_aug {k : Nat} {ti : TIp} {x : V} (hx : σ[k]? = some (some x)) (h : te σ H fun y H1 => ti x y H1 fun z H2 => D.nx (σ.set k (some z)) H2) : tAug k te ti D σ H := ⟨x, hx, h⟩
theorem w_par2 {k m : Nat} {ta : TA} (h : ta σ H fun vs H1 => ∃ v w, vs = [v, w] ∧ D.nx ((σ.set k (some v)).set m (some w)) H1) : tPar k m ta D σ H := h
theorem w_two {v w : V} {P : V → V → Prop} (h : P v w) : ∃ v' w', [v, w] = [v', w'] ∧ P v' w' := ⟨v, w, rfl, h⟩
theorem w_three {u v w : V} {P : V → V → V → Prop} (h : P u v w) : ∃ u' v' w', [u, v, w] = [u', v', w'] ∧ P u' v' w' := ⟨u, v, w, rfl, h⟩
theorem w_par3 {k m n : Nat} {ta : TA} (h : ta σ H fun vs H1 => ∃ u v w, vs = [u, v, w] ∧ D.nx (((σ.set k (some u)).set m (some v)).set n (some w)) H1) : tPar3 k m n ta D σ H := h
/-- a, b = a tuple's items -/
theorem w_gtup {n : Nat} {tg : TGs} {Q : L2.St → Hp → Prop} (h : H p = some (.tup xs)) (hn : xs.length = n) (k : tg xs σ H Q) : gTup K n tg (.ref p) σ H Q := ⟨p, xs, rfl, SqT.of h, hn, k⟩
theorem w_gcons {tg : TG} {tgs : TGs} {Q : L2.St → Hp → Prop} (h : tg v σ H fun σ' H' => tgs xs σ' H' Q) : gCons tg tgs (v :: xs) σ H Q := ⟨v, xs, rfl, h⟩
theorem w_gnil {Q : L2.St → Hp → Prop} (h : Q σ H) : gNil [] σ H Q := ⟨rfl, h⟩
/-! ### expressions -/
theorem w_var {k : Nat} (hx : σ[k]? = some (some v)) (h : Q v H) : tVar k σ H Q := ⟨v, hx, h⟩
theorem w_c (h : Q v H) : tC v σ H Q := h
theorem w_op {r : R2} (h : ta σ H fun x H1 => tb σ H1 fun y H2 => r x y H2 Q) : tOp r ta tb σ H Q := h
theorem w_un {r : V → Hp → VK → Prop} (h : ta σ H fun x H1 => r x H1 Q) : tUn r ta σ H Q := h
theorem w_neg (h : Q (.int (-i)) H) : rU (fun i => .int (-i)) (.int i) H Q := ⟨i, rfl, h⟩
theorem w_cb {r : List V → Hp → VK → Prop} {ta : TA} (h : ta σ H fun vs H1 => r vs H1 Q) : tCB r ta σ H Q := h
theorem w_call {sp : Sp} {dvs : List V} {E : XK} {ta : TA} (h : ta σ H fun vs H1 => sp (vs ++ dvs) H1 Q E) : tCall sp dvs E ta σ H Q := h
theorem w_cons {tr : TA} {Q : List V → Hp → Prop} (h : te σ H fun x H1 => tr σ H1 fun xs H2 => Q (x :: xs) H2) : tCons te tr σ H Q := h
theorem w_nil {Q : List V → Hp → Prop} (h : Q [] H) : tNil σ H Q := h
theorem w_if (h : tt σ H fun c H1 => if c = true then ta σ H1 Q else tb σ H1 Q) : tIf tt ta tb σ H Q := h
theorem w_sl {r : V → Option Int → Option Int → Hp → VK → Prop} {tl th : TO} (h : te σ H fun x H1 => tl σ H1 fun l H2 => th σ H2 fun u H3 => r x l u H3 Q) : tSl r te tl th σ H Q := h
theorem w_part {Q : Option Int → Hp → Prop} (h : te σ H fun x H1 => ∃ i, x = .int i ∧ Q (some i) H1) : tPart te σ H Q := h
theorem w_intk {P : Int → Prop} (h : P i) : ∃ i', V.int i = V.int i' ∧ P i' := ⟨i, rfl, h⟩
theorem w_noPart {Q : Option Int → Hp → Prop} (h : Q none H) : tNoPart σ H Q := h
theorem w_revX (h : te σ H fun x H1 => ∃ l, x = Tx l ∧ l.length ≤ sizeLine ∧ Q (Tx l.reverse) H1) : tRevX te σ H Q := h
theorem w_revX2 {P : List Nat → Prop} (hl : l.length ≤ sizeLine) (h : P l) : ∃ l', Tx l = Tx l' ∧ l'.length ≤ sizeLine ∧ P l' := ⟨l, rfl, hl, h⟩
/-- a new tuple, a new list -/
theorem w_tup {ta : TA} (h : ta σ H fun xs H1 => xs.length ≤ sizeLine ∧ New H1 (.tup xs) Q) : tTupX ta σ H Q := h
theorem w_lst {ta : TA} (h : ta σ H fun xs H1 => xs.length ≤ sizeLine ∧ New H1 (.lst xs) Q) : tLstX ta σ H Q := h
theorem w_new {o : HO} {n : Nat} (hn : n ≤ sizeLine) (h : ∀ (p : Addr) (H2 : Hp), H p = none → Ex H H2 → H2 p = some o → Q (.ref p) H2) : n ≤ sizeLine ∧ New H o Q := ⟨hn, h⟩
theorem w_newN {o : HO} (h : ∀ (p : Addr) (H2 : Hp), H p = none → Ex H H2 → H2 p = some o → Q (.ref p) H2) : New H o Q := h
/-! ### tests -/
theorem w_test {Q : Bool → Hp → Prop} (h : te σ H fun x H1 => ∃ k, x = .bl k ∧ Q k H1) : tTest te σ H Q := h
theorem w_tB {Q : Bool → Hp → Prop} (h : te σ H fun x H1 => ∃ k, x = .bl k ∧ Q k H1) : tB te σ H Q := h
theorem w_blk {P : Bool → Prop} {b : Bool} (h : P b) : ∃ k, V.bl b = V.bl k ∧ P k := ⟨b, rfl, h⟩
theorem w_and {tu : TT} {Q : Bool → Hp → Prop} (h : tt σ H fun c H1 => if c = true then tu σ H1 Q else Q false H1) : tAnd tt tu σ H Q := h
theorem w_or {tu : TT} {Q : Bool → Hp → Prop} (h : tt σ H fun c H1 => if c = true then Q true H1 else tu σ H1 Q) : tOr tt tu σ H Q := h
theorem w_not {Q : Bool → Hp → Prop} (h : tt σ H fun c H1 => Q (!c) H1) : tNot tt σ H Q := h
theorem w_andV (h : ta σ H fun x H1 => ∃ c, x = .bl c ∧ if c = true then tb σ H1 Q else Q (.bl false) H1) : tAndV ta tb σ H Q := h
theorem w_orV (h : ta σ H fun x H1 => ∃ c, x = .bl c ∧ if c = true then Q (.bl true) H1 else tb σ H1 Q) : tOrV ta tb σ H Q := h
theorem w_notV (h : ta σ H fun x H1 => ∃ c, x = .bl c ∧ Q (.bl (!c)) H1) : tNotV ta σ H Q := h
theorem w_chain {r r' : R2} {tc : TE} (h : ta σ H fun x H1 => tb σ H1 fun y H2 => r x y H2 fun z H3 => ∃ k, z = .bl k ∧ (if k = true then tc σ H3 fun w' H4 => r' y w' H4 Q else Q (.bl false) H3)) : tChain r r' ta tb tc σ H Q := h
section
variable {A B P : Prop} [Decidable P] {c d : Bool}
theorem w_iteD (h1 : P → A) (h2 : ¬ P → B) : if decide P = true then A else B := by
  by_cases h : P
  · simp [h]; exact h1 h
  · simp [h]; exact h2 h
theorem w_iteN (h1 : ¬ P → A) (h2 : P → B) : if (!decide P) = true then A else B := by
  by_cases h : P
  · simp [h]; exact h2 h
  · simp [h]; exact h1 h
theorem w_iteB (h1 : c = true → A) (h2 : c = false → B) : if c = true then A else B := by
  cases c
  · simp; exact h2 rfl
  · simp; exact h1 rfl
theorem w_iteT (h : c = true) (k : A) : if c = true then A else B := by rw [if_pos h]; exact k
theorem w_iteF (h : c = false) (k : B) : if c = true then A else B := by rw [if_neg (by rw [h]; decide)]; exact k
end
/-! ### operators by values -/
theorem w_addI (h : Q (.int (i + j)) H) : rAddU (.int i) (.int j) H Q := .inl ⟨i, j, rfl, rfl, h⟩
theorem w_addT (hl : a.length + b.length ≤ sizeLine) (h : Q (Tx (a ++ b)) H) : rAddU (Tx a) (Tx b) H Q := .inr (.inl ⟨a, b, rfl, rfl, hl, h⟩)
theorem w_addL {q : Addr} (h1 : H p = some (.lst xs)) (h2 : H q = some (.lst ys)) (hl : xs.length + ys.length ≤ sizeLine) (h : New H (.lst (xs ++ ys)) Q) : rAddU (.ref p) (.ref q) H Q :=
  .inr (.inr (.inl ⟨p, q, xs, ys, rfl, rfl, h1, h2, hl, h⟩))
theorem w_addU {q : Addr} (h1 : H p = some (.tup xs)) (h2 : H q = some (.tup ys)) (hl : xs.length + ys.length ≤ sizeLine) (h : ∀ (p : Addr) (H2 : Hp), Ex H H2 → H2 p = some (.tup (xs ++ ys)) → Q (.ref p) H2) : rAddU (.ref p) (.ref q) H Q :=
  .inr (.inr (.inr ⟨p, q, xs, ys, rfl, rfl, h1, h2, hl, h⟩))
theorem w_I0 {g : Int → Int → V} (h : Q (g i j) H) : rI0 g (.int i) (.int j) H Q := ⟨i, j, rfl, rfl, h⟩
theorem w_I {C : Int → Int → Prop} {g : Int → Int → V} (hc : C i j) (h : Q (g i j) H) : rI C g (.int i) (.int j) H Q := ⟨i, j, rfl, rfl, hc, h⟩
theorem w_ltI (h : Q (.bl (decide (i < j))) H) : rLtU (.int i) (.int j) H Q := .inl ⟨i, j, rfl, rfl, h⟩
theorem w_ltT (h : Q (.bl (decide (a < b))) H) : rLtU (Tx a) (Tx b) H Q := .inr ⟨a, b, rfl, rfl, h⟩
theorem w_gtI (h : Q (.bl (decide (j < i))) H) : rGtU (.int i) (.int j) H Q := .inl ⟨i, j, rfl, rfl, h⟩
theorem w_gtT (h : Q (.bl (decide (b < a))) H) : rGtU (Tx a) (Tx b) H Q := .inr ⟨a, b, rfl, rfl, h⟩
theorem w_leI (h : Q (.bl (decide (i ≤ j))) H) : rLeU (.int i) (.int j) H Q := .inl ⟨i, j, rfl, rfl, h⟩
theorem w_leT (h : Q (.bl (!decide (b < a))) H) : rLeU (Tx a) (Tx b) H Q := .inr ⟨a, b, rfl, rfl, h⟩
theorem w_geI (h : Q (.bl (decide (j ≤ i))) H) : rGeU (.int i) (.int j) H Q := .inl ⟨i, j, rfl, rfl, h⟩
theorem w_geT (h : Q (.bl (!decide (a < b))) H) : rGeU (Tx a) (Tx b) H Q := .inr ⟨a, b, rfl, rfl, h⟩
theorem w_eqI (h : Q (.bl (decide (i = j))) H) : rEqU K (.int i) (.int j) H Q := .inl ⟨i, j, rfl, rfl, h⟩
theorem w_eqT (h : Q (.bl (decide (a = b))) H) : rEqU K (Tx a) (Tx b) H Q := .inr (.inl ⟨a, b, rfl, rfl, h⟩)
theorem w_eqC {c d : Nat} (h : Q (.bl (decide (c = d))) H) : rEqU K (Tx [c]) (Tx [d]) H Q := w_eqT (by
  have e : decide ([c] = [d]) = decide (c = d) := by by_cases q : c = d <;> simp [q]
  rw [e]; exact h)
theorem w_eqS (hs : scal x y = true) (h : Q (.bl (decide (x = y))) H) : rEqU K x y H Q := .inr (.inr (.inl ⟨hs, h⟩))
theorem w_eqD {d e : PyData} (h1 : Rp H x d) (h2 : Rp H y e) (s1 : SeqAt.shaped d = true) (s2 : SeqAt.shaped e = true) (h : Q (.bl (PyData.eqv d e)) H) : rEqU K x y H Q := .inr (.inr (.inr ⟨d, e, h1.dp, h2.dp, s1, s2, h⟩))
theorem w_neI (h : Q (.bl (!decide (i = j))) H) : rNeU K (.int i) (.int j) H Q := .inl ⟨i, j, rfl, rfl, h⟩
theorem w_neT (h : Q (.bl (!decide (a = b))) H) : rNeU K (Tx a) (Tx b) H Q := .inr (.inl ⟨a, b, rfl, rfl, h⟩)
theorem w_neC {c d : Nat} (h : Q (.bl (!decide (c = d))) H) : rNeU K (Tx [c]) (Tx [d]) H Q := w_neT (by
  have e : decide ([c] = [d]) = decide (c = d) := by by_cases q : c = d <;> simp [q]
  rw [e]; exact h)
theorem lt_one (c d : Nat) : decide ([c] < [d]) = decide (c < d) := by
  have e : ([c] < [d]) ↔ c < d := by
    rw [List.cons_lt_cons_iff]
    simp
  simp only [e]
theorem w_ltC {c d : Nat} (h : Q (.bl (decide (c < d))) H) : rLtU (Tx [c]) (Tx [d]) H Q := w_ltT (by rw [lt_one]; exact h)
theorem w_gtC {c d : Nat} (h : Q (.bl (decide (d < c))) H) : rGtU (Tx [c]) (Tx [d]) H Q := w_gtT (by rw [lt_one]; exact h)
theorem w_leC {c d : Nat} (h : Q (.bl (decide (c ≤ d))) H) : rLeU (Tx [c]) (Tx [d]) H Q := w_leT (by
  have e : (!decide (d < c)) = decide (c ≤ d) := by by_cases q : d < c <;> simp [q] <;> omega
  rw [lt_one, e]; exact h)
theorem w_geC {c d : Nat} (h : Q (.bl (decide (d ≤ c))) H) : rGeU (Tx [c]) (Tx [d]) H Q := w_geT (by
  have e : (!decide (c < d)) = decide (d ≤ c) := by by_cases q : c < d <;> simp [q] <;> omega
  rw [lt_one, e]; exact h)
theorem w_neS (hs : scal x y = true) (h : Q (.bl (!decide (x = y))) H) : rNeU K x y H Q := .inr (.inr (.inl ⟨hs, h⟩))
theorem w_neD {d e : PyData} (h1 : Rp H x d) (h2 : Rp H y e) (s1 : SeqAt.shaped d = true) (s2 : SeqAt.shaped e = true) (h : Q (.bl (!PyData.eqv d e)) H) : rNeU K x y H Q := .inr (.inr (.inr ⟨d, e, h1.dp, h2.dp, s1, s2, h⟩))
theorem w_inS {c : Nat} (h : Q (.bl (decide (c ∈ l))) H) : rInU K (Tx [c]) (Tx l) H Q := .inl ⟨c, l, rfl, rfl, h⟩
theorem w_notInS {c : Nat} (h : Q (.bl (!decide (c ∈ l))) H) : rNotInU K (Tx [c]) (Tx l) H Q := .inl ⟨c, l, rfl, rfl, h⟩
theorem w_ixX (hl : l.length ≤ sizeLine) (h0 : 0 ≤ i) (h1 : i < (l.length : Int)) (h : ∀ c, l[i.toNat]? = some c → Q (Tx [c]) H) : rIxU K (Tx l) (.int i) H Q := by
  obtain ⟨k, rfl⟩ : ∃ k : Nat, i = k := ⟨i.toNat, by omega⟩
  have hk : k < l.length := by omega
  exact .inl ⟨l, _, l[k], rfl, rfl, hl, atI_nat (by simp [hk]), h _ (by simp [hk])⟩
theorem w_ixXl (hl : l.length ≤ sizeLine) (h1 : l ≠ []) (h : ∀ c, l.getLast? = some c → Q (Tx [c]) H) : rIxU K (Tx l) (.int (-1)) H Q := by
  obtain ⟨m, c, rfl⟩ : ∃ m c, l = m ++ [c] := ⟨l.dropLast, l.getLast h1, (List.dropLast_concat_getLast h1).symm⟩
  exact .inl ⟨_, _, c, rfl, rfl, hl, atI_last m c, h _ (by simp)⟩
theorem w_ixL (hp : H p = some (.lst xs)) (h0 : 0 ≤ i) (h1 : i < (xs.length : Int)) (h : ∀ v, xs[i.toNat]? = some v → Q v H) : rIxU K (.ref p) (.int i) H Q := by
  obtain ⟨k, rfl⟩ : ∃ k : Nat, i = k := ⟨i.toNat, by omega⟩
  have hk : k < xs.length := by omega
  exact .inr (.inr ⟨p, xs, _, xs[k], rfl, rfl, SqL.of hp, atI_nat (by simp [hk]), h _ (by simp [hk])⟩)
theorem w_ixU (hp : H p = some (.tup xs)) (h0 : 0 ≤ i) (h1 : i < (xs.length : Int)) (h : ∀ v, xs[i.toNat]? = some v → Q v H) : rIxU K (.ref p) (.int i) H Q := by
  obtain ⟨k, rfl⟩ : ∃ k : Nat, i = k := ⟨i.toNat, by omega⟩
  have hk : k < xs.length := by omega
  exact .inr (.inl ⟨p, xs, _, xs[k], rfl, rfl, SqT.of hp, atI_nat (by simp [hk]), h _ (by simp [hk])⟩)
theorem w_ixLl (hp : H p = some (.lst xs)) (h1 : xs ≠ []) (h : ∀ v, xs.getLast? = some v → Q v H) : rIxU K (.ref p) (.int (-1)) H Q := by
  obtain ⟨m, c, rfl⟩ : ∃ m c, xs = m ++ [c] := ⟨xs.dropLast, xs.getLast h1, (List.dropLast_concat_getLast h1).symm⟩
  exact .inr (.inr ⟨p, _, _, c, rfl, rfl, SqL.of hp, atI_last m c, h _ (by simp)⟩)
theorem w_slX {lo hi : Option Int} (hl : l.length ≤ sizeLine) (h : Q (Tx (cutL l lo hi)) H) : rSlU (Tx l) lo hi H Q := .inl ⟨l, rfl, hl, h⟩
theorem w_slL {lo hi : Option Int} (hp : H p = some (.lst xs)) (h : New H (.lst (cutL xs lo hi)) Q) : rSlU (.ref p) lo hi H Q := .inr (.inl ⟨p, xs, rfl, hp, h⟩)
theorem w_slU {lo hi : Option Int} (hp : H p = some (.tup xs)) (h : ∀ (p : Addr) (H2 : Hp), Ex H H2 → H2 p = some (.tup (cutL xs lo hi)) → Q (.ref p) H2) : rSlU (.ref p) lo hi H Q := .inr (.inr ⟨p, xs, rfl, hp, h⟩)
theorem w_lenX (hl : l.length ≤ sizeLine) (h : Q (.int (l.length : Int)) H) : rLenU K [Tx l] H Q := .inl ⟨l, rfl, hl, h⟩
theorem w_lenL (hp : H p = some (.lst xs)) (h : Q (.int (xs.length : Int)) H) : rLenU K [.ref p] H Q := .inr ⟨p, xs, rfl, .inl (SqL.of hp), h⟩
theorem w_lenU (hp : H p = some (.tup xs)) (h : Q (.int (xs.length : Int)) H) : rLenU K [.ref p] H Q := .inr ⟨p, xs, rfl, .inr (SqT.of hp), h⟩
theorem w_listX (hl : l.length ≤ sizeLine) (h : New H (.lst (l.map fun c => Tx [c])) Q) : rListU K [Tx l] H Q := .inl ⟨l, rfl, hl, h⟩
theorem w_listL (hp : H p = some (.lst xs)) (h : New H (.lst xs) Q) : rListU K [.ref p] H Q := .inr ⟨p, xs, rfl, .inl (SqL.of hp), h⟩
theorem w_listU (hp : H p = some (.tup xs)) (h : New H (.lst xs) Q) : rListU K [.ref p] H Q := .inr ⟨p, xs, rfl, .inr (SqT.of hp), h⟩
theorem w_any {bs : List Bool} (hp : H p = some (.lst (bs.map V.bl))) (h : Q (.bl (bs.any id)) H) : rAny K [.ref p] H Q := ⟨p, bs, rfl, SqL.of hp, h⟩
theorem w_all {bs : List Bool} (hp : H p = some (.lst (bs.map V.bl))) (h : Q (.bl (bs.all id)) H) : rAll K [.ref p] H Q := ⟨p, bs, rfl, SqL.of hp, h⟩
theorem w_is {n t : String} (ht : Tg H x t) (hn : n ∈ ["int", "bool", "str", "tuple", "list"]) (h : Q (.bl (isiB t n)) H) : rIsU [x, .ty n] H Q := ⟨x, t, n, rfl, ht, hn, h⟩
/-! ### methods -/
theorem w_bm {T : String} {r : V → List V → Hp → VK → Prop} {ta : TA} (h : te σ H fun x H1 => tyV K T x H1 ∧ ta σ H1 fun xs H2 => r x xs H2 Q) : tBM K T r te ta σ H Q := h
theorem w_bm0 {T : String} {r : V → List V → Hp → VK → Prop} (h : te σ H fun x H1 => tyV K T x H1 ∧ r x [] H1 Q) : tBM0 K T r te σ H Q := h
theorem ty_str {z : Str} : tyV K "str" (.str z) H := rfl
theorem ty_lst (h : H p = some (.lst xs)) : tyV K "list" (.ref p) H := .inl ⟨rfl, xs, SqL.of h⟩
theorem w_join {ls : List (List Nat)} (hp : H p = some (.lst (ls.map fun l => Tx l))) (hz : (ls.map (·.length)).sum + ls.length * a.length ≤ 16777216) (h : Q (Tx (TL.joinL a ls)) H) : rJoinX K (Tx a) [.ref p] H Q := ⟨a, p, ls, rfl, rfl, .inl (SqL.of hp), hz, h⟩
/-- all but l is as it was -/
def ExB (l : Addr) (H H' : Hp) : Prop := ∀ b o, b ≠ l → H b = some o → H' b = some o
theorem ExB.upd {l : Addr} {o : HO} : ExB l H (upd H l o) := fun b u hb h => by rw [upd_ne hb]; exact h
theorem Ex.but {H0 : Hp} {l : Addr} (e : Ex H0 H) (b : ExB l H H') (h : H0 l = none) : Ex H0 H' := fun c o hc => b c o (ne_of_none hc h) (e c o hc)
theorem w_app {m : Addr} (hp : H m = some (.lst xs)) (hl : xs.length < sizeLine) (h : ∀ H2, ExB m H H2 → H2 m = some (.lst (xs ++ [v])) → Q .non H2) : rAppend (.ref m) [v] H Q := ⟨m, xs, v, rfl, rfl, hp, hl, h _ ExB.upd upd_same⟩
theorem w_popAt {m : Addr} {k : Nat} (hp : H m = some (.lst xs)) (hk : k < xs.length) (hs : xs.length < 2 ^ 62) (h : ∀ H2 v, xs[k]? = some v → ExB m H H2 → H2 m = some (.lst (xs.eraseIdx k)) → Q v H2) : rPopAt (.ref m) [.int (k : Int)] H Q := by
  refine ⟨m, xs, _, k, xs[k], rfl, rfl, hp, by omega, by omega, ?_, by simp [hk], h _ _ (by simp [hk]) ExB.upd upd_same⟩
  exact (ixN_seq (by unfold ixN; rw [if_pos (by omega), if_pos (by omega)]; simp)).1
theorem w_setL {m : Addr} {Q : Hp → Prop} (hp : H m = some (.lst xs)) (h0 : 0 ≤ i) (h1 : i < (xs.length : Int)) (h : ∀ H2, ExB m H H2 → H2 m = some (.lst (xs.set i.toNat v)) → Q H2) : rSetL (.ref m) (.int i) v H Q := by
  refine ⟨m, xs, i, i.toNat, rfl, rfl, hp, ?_, h _ ExB.upd upd_same⟩
  unfold ixN
  rw [if_pos h0, if_pos h1]
theorem w_gsub {to ti : TE} {t : TSet} {Q : L2.St → Hp → Prop} (h : to σ H fun o H1 => ti σ H1 fun i H2 => t o i v H2 fun H3 => Q σ H3) : gSub to ti t v σ H Q := h
end
end Lt
/-! Lt5: cuts (what a part gives, told once), loops and comprehensions over anything. -/
namespace Lt
open PySem PySem.Spec PyProof.Rows L2 Evl
open SX (S)

theorem take_more {α : Type} {l : List α} {i : Nat} {x : α} (h : l[i]? = some x) : l.take (i + 1) = l.take i ++ [x] := by
  rw [List.take_add_one, h]; rfl
theorem range_more (i : Nat) : List.range (i + 1) = List.range i ++ [i] := List.range_succ
theorem w_tyL {K : PySem.W.Frag} {H : Hp} {p : Addr} {xs : List V} {A : Prop} (hp : H p = some (.lst xs)) (k : A) : tyV K "list" (.ref p) H ∧ A := ⟨ty_lst hp, k⟩
theorem w_tyS {K : PySem.W.Frag} {H : Hp} {z : Str} {A : Prop} (k : A) : tyV K "str" (.str z) H ∧ A := ⟨rfl, k⟩
theorem w_int1 {P : Int → Prop} {i : Int} (h : P i) : ∃ i', [V.int i] = [V.int i'] ∧ P i' := ⟨i, rfl, h⟩
theorem w_callN {σ : L2.St} {H : Hp} {Q : VK} {sp : Sp} {E : XK} {ta : TA} (h : ta σ H fun vs H1 => sp vs H1 Q E) : tCall sp [] E ta σ H Q := by
  have e : (fun (vs : List V) (H1 : Hp) => sp (vs ++ []) H1 Q E) = fun vs H1 => sp vs H1 Q E := by funext vs H1; rw [List.append_nil]
  show ta σ H fun vs H1 => sp (vs ++ []) H1 Q E
  rw [e]; exact h
/-! ### cuts -/
def tCutE (t : TE) : TE := fun σ H Q => ∃ R : VK, t σ H R ∧ ∀ v H', R v H' → Q v H'
def tCutT (t : TT) : TT := fun σ H Q => ∃ R : Bool → Hp → Prop, t σ H R ∧ ∀ b H', R b H' → Q b H'
def tCutS (t : TS) : TS := fun D σ H => ∃ R : L2.St → Hp → Prop, t { D with nx := R } σ H ∧ ∀ σ' H', R σ' H' → D.nx σ' H'
section
variable {X : Cx}
theorem pe_cut {e : Expr} {t : TE} (h : PE X e t) : PE X e (tCutE t) := ⟨fun pins s σ H Q I ⟨R, q, w⟩ => thn (h.run pins s σ H R I q) fun _ _ ⟨v, H', I', r, z⟩ => ⟨v, H', I', r, w v H' z⟩⟩
theorem pt_cut {e : Expr} {t : TT} (h : PT X e t) : PT X e (tCutT t) := ⟨fun pins s σ H Q I ⟨R, q, w⟩ => thn (h.run pins s σ H R I q) fun _ _ ⟨H', I', z⟩ => ⟨H', I', w _ H' z⟩⟩
theorem pts_cut {es : List Expr} {t : TT} (h : PTs X es t) : PTs X es (tCutT t) := ⟨fun pins s σ H Q I ⟨R, q, w⟩ => thn (h.run pins s σ H R I q) fun _ _ ⟨H', I', z⟩ => ⟨H', I', w _ H' z⟩⟩
theorem ps_cut {st : Stmt} {t : TS} (h : PS X st t) : PS X st (tCutS t) := ⟨fun pins s σ H D I ⟨R, q, w⟩ => thn (h.run pins s σ H { D with nx := R } I q) fun f _ z => by
  cases f with
  | next => obtain ⟨σ', H', I', z⟩ := z; exact ⟨σ', H', I', w _ _ z⟩
  | brk => exact z
  | cont => exact z
  | ret u => exact z⟩
end
section
variable {σ : L2.St} {H H' : Hp} {D : Ends} {Q : VK} {K : PySem.W.Frag}
theorem w_cutE {t : TE} (R : VK) (h : t σ H R) (k : ∀ v H', R v H' → Q v H') : tCutE t σ H Q := ⟨R, h, k⟩
theorem w_cutT {t : TT} {Q : Bool → Hp → Prop} (R : Bool → Hp → Prop) (h : t σ H R) (k : ∀ b H', R b H' → Q b H') : tCutT t σ H Q := ⟨R, h, k⟩
theorem w_cutS {t : TS} (R : L2.St → Hp → Prop) (h : t { D with nx := R } σ H) (k : ∀ σ' H', R σ' H' → D.nx σ' H') : tCutS t D σ H := ⟨R, h, k⟩
/-- no cut is wanted -/
theorem w_cutE0 {t : TE} (h : t σ H Q) : tCutE t σ H Q := ⟨Q, h, fun _ _ z => z⟩
theorem w_cutT0 {t : TT} {Q : Bool → Hp → Prop} (h : t σ H Q) : tCutT t σ H Q := ⟨Q, h, fun _ _ z => z⟩
theorem w_cutS0 {t : TS} (h : t D σ H) : tCutS t D σ H := ⟨D.nx, h, fun _ _ z => z⟩
/-- a test's answer by a Bool; a value -/
theorem w_cutB {t : TT} {Q : Bool → Hp → Prop} (c : Bool) (h : t σ H fun b H1 => b = c ∧ H1 = H) (k : Q c H) : tCutT t σ H Q := ⟨_, h, fun _ _ ⟨e1, e2⟩ => by rw [e1, e2]; exact k⟩
theorem w_cutV {t : TE} (v : V) (h : t σ H fun x H1 => x = v ∧ H1 = H) (k : Q v H) : tCutE t σ H Q := ⟨_, h, fun _ _ ⟨e1, e2⟩ => by rw [e1, e2]; exact k⟩

/-- while: an invariant told by a measure -/
theorem w_while {c : TT} {tb : TS} (W : Nat → L2.St → Hp → Prop) (m : Nat) (h0 : W m σ H)
    (hs : ∀ m σ H, W m σ H → c σ H fun b H1 => if b = true then tb { D with nx := fun σ' H' => ∃ m', m' < m ∧ W m' σ' H', ct := fun σ' H' => ∃ m', m' < m ∧ W m' σ' H', bk := D.nx } σ H1 else D.nx σ H1) : tWhile (tCutT c) tb D σ H :=
  ⟨W, ⟨m, h0⟩, fun m σ H w => ⟨_, hs m σ H w, fun b H1 z => by
    cases b with
    | true => exact ⟨_, fun _ _ q => q, z⟩
    | false => exact z⟩⟩

/-! ### walks -/
def AnyR (K : PySem.W.Frag) (v : V) (H : Hp) (R : It → Hp → Prop) : Prop := (∃ l, v = Tx l ∧ R (Itx l) H) ∨ (∃ a xs, v = .ref a ∧ SqT K H a xs ∧ R (Itt K a) H) ∨ (∃ a xs, v = .ref a ∧ SqL K H a xs ∧ R (Itl K a) H)
theorem w_iany {te : TE} {R : It → Hp → Prop} (h : te σ H fun v H1 => AnyR K v H1 R) : iAny K te σ H R := h
theorem w_anyX {l : List Nat} {R : It → Hp → Prop} (h : R (Itx l) H) : AnyR K (Tx l) H R := .inl ⟨l, rfl, h⟩
theorem w_anyU {p : Addr} {xs : List V} {R : It → Hp → Prop} (hp : H p = some (.tup xs)) (h : R (Itt K p) H) : AnyR K (.ref p) H R := .inr (.inl ⟨p, xs, rfl, SqT.of hp, h⟩)
theorem w_anyL {p : Addr} {xs : List V} {R : It → Hp → Prop} (hp : H p = some (.lst xs)) (h : R (Itl K p) H) : AnyR K (.ref p) H R := .inr (.inr ⟨p, xs, rfl, SqL.of hp, h⟩)
theorem w_anyK {p : Addr} {xs : List V} {R : It → Hp → Prop} (hp : SqL K H p xs) (h : R (Itl K p) H) : AnyR K (.ref p) H R := .inr (.inr ⟨p, xs, rfl, hp, h⟩)
theorem w_rng1 {ta : TA} {R : It → Hp → Prop} (h : ta σ H fun vs H1 => ∃ j : Int, vs = [.int j] ∧ -(2 ^ 62) ≤ j ∧ j < 2 ^ 62 ∧ R (Itr 0 j.toNat) H1) : iRng1 ta σ H R := h
theorem w_rng1k {j : Int} {P : Int → Prop} (h1 : -(2 ^ 62) ≤ j ∧ j < 2 ^ 62) (h : P j) : ∃ j' : Int, [V.int j] = [V.int j'] ∧ -(2 ^ 62) ≤ j' ∧ j' < 2 ^ 62 ∧ P j' := ⟨j, rfl, h1.1, h1.2, h⟩
theorem w_rng2 {ta : TA} {R : It → Hp → Prop} (h : ta σ H fun vs H1 => ∃ i j : Int, vs = [.int i, .int j] ∧ (-(2 ^ 62) ≤ i ∧ i < 2 ^ 62 ∧ -(2 ^ 62) ≤ j ∧ j < 2 ^ 62) ∧ R (Itr i (j - i).toNat) H1) : iRng2 ta σ H R := h
theorem w_rng2k {i j : Int} {P : Int → Int → Prop} (h1 : -(2 ^ 62) ≤ i ∧ i < 2 ^ 62 ∧ -(2 ^ 62) ≤ j ∧ j < 2 ^ 62) (h : P i j) :
    ∃ i' j' : Int, [V.int i, V.int j] = [V.int i', V.int j'] ∧ (-(2 ^ 62) ≤ i' ∧ i' < 2 ^ 62 ∧ -(2 ^ 62) ≤ j' ∧ j' < 2 ^ 62) ∧ P i' j' := ⟨i, j, rfl, h1, h⟩
theorem w_enumX {ta : TA} {R : It → Hp → Prop} (h : ta σ H fun vs H1 => ∃ l, vs = [Tx l] ∧ R (Itex l) H1) : iEnumX ta σ H R := h
theorem w_enumXk {l : List Nat} {P : List Nat → Prop} (h : P l) : ∃ l', [Tx l] = [Tx l'] ∧ P l' := ⟨l, rfl, h⟩
theorem w_zipX {ta : TA} {R : It → Hp → Prop} (h : ta σ H fun vs H1 => ∃ l m, vs = [Tx l, Tx m] ∧ R (Itzx l m) H1) : iZipX ta σ H R := h
theorem w_zipXk {l m : List Nat} {P : List Nat → List Nat → Prop} (h : P l m) : ∃ l' m', [Tx l, Tx m] = [Tx l', Tx m'] ∧ P l' m' := ⟨l, m, rfl, h⟩
theorem w_enumL {ta : TA} {R : It → Hp → Prop} (h : ta σ H fun vs H1 => ∃ a xs, vs = [.ref a] ∧ SqL K H1 a xs ∧ R (Ite K a) H1) : iEnum K ta σ H R := h
theorem w_enumLk {p : Addr} {xs : List V} {P : Addr → Prop} (hp : H p = some (.lst xs)) (h : P p) : ∃ a xs, [V.ref p] = [V.ref a] ∧ SqL K H a xs ∧ P a := ⟨p, xs, rfl, SqL.of hp, h⟩
theorem w_zipL {ta : TA} {R : It → Hp → Prop} (h : ta σ H fun vs H1 => ∃ a b xs ys, vs = [.ref a, .ref b] ∧ SqL K H1 a xs ∧ SqL K H1 b ys ∧ R (Itz K a b) H1) : iZip K ta σ H R := h
theorem w_zipLk {p q : Addr} {xs ys : List V} {P : Addr → Addr → Prop} (hp : H p = some (.lst xs)) (hq : H q = some (.lst ys)) (h : P p q) : ∃ a b xs ys, [V.ref p, V.ref q] = [V.ref a, V.ref b] ∧ SqL K H a xs ∧ SqL K H b ys ∧ P a b :=
  ⟨p, q, xs, ys, rfl, SqL.of hp, SqL.of hq, h⟩
/-- enumerate(list), zip(list, list): new pairs -/
theorem walk_enumL {a : Addr} {xs : List V} : Walk (Ite K a) xs.length (fun H => SqL K H a xs) (YNew fun i vs => ∃ x, xs[i]? = some x ∧ vs = [.int (i : Nat), x]) :=
  walk_enum.mono (fun _ h => h) fun i H v H' _ _ ⟨T, x, y, e, hT, hH, hx, hy⟩ => ⟨T, [x, y], e, hT, by rw [hH]; exact Ex.new hT, by rw [hH]; exact upd_same, y, hy, by cases hx; rfl⟩
theorem walk_zipL {a b : Addr} {xs ys : List V} : Walk (Itz K a b) (min xs.length ys.length) (fun H => SqL K H a xs ∧ SqL K H b ys) (YNew fun i vs => ∃ x y, xs[i]? = some x ∧ ys[i]? = some y ∧ vs = [x, y]) :=
  (walk_zip rfl).mono (fun _ h => h) fun i H v H' _ _ ⟨T, x, y, e, hT, hH, hx, hy⟩ => ⟨T, [x, y], e, hT, by rw [hH]; exact Ex.new hT, by rw [hH]; exact upd_same, x, y, hx, hy, rfl⟩

/-! ### for -/
def ForX (J : It) (g : TG) (tb : TS) (D : Ends) (σ : L2.St) (H : Hp) : Prop := ∃ W : Nat → Nat → L2.St → Hp → Prop, (∃ m, W 0 m σ H) ∧ ∀ i m σ H, W i m σ H →
      (J.stop i H ∧ D.nx σ H) ∨ (J.go i H ∧ ∃ N : L2.St → Hp → Prop, (∀ σ' H', N σ' H' → ∃ m', m' < m ∧ W (i + 1) m' σ' H') ∧ ∀ x H', J.yld i H x H' → g x σ H' fun σ2 H2 => tb { D with nx := N, ct := N, bk := D.nx } σ2 H2)
theorem w_for {wi : TI} {g : TG} {tb : TS} (h : wi σ H fun J H1 => ForX J g tb D σ H1) : tFor wi g tb D σ H := h
section
variable {g : TG} {tb : TS} {J : It} {n : Nat} {G : Hp → Prop} {Y : Nat → Hp → V → Hp → Prop}
theorem forX_it (w : Walk J n G Y) (Pv : Nat → L2.St → Hp → Prop) (h0 : Pv 0 σ H) (hG : ∀ i σ H, i ≤ n → Pv i σ H → G H)
    (hs : ∀ i x σ H H', i < n → Pv i σ H → Y i H x H' → g x σ H' fun σ2 H2 => tb { D with nx := Pv (i + 1), ct := Pv (i + 1), bk := D.nx } σ2 H2) (hd : ∀ σ H, Pv n σ H → D.nx σ H) : ForX J g tb D σ H := for_it w Pv h0 hG hs hd
/-- over a text -/
theorem forX_tx {l : List Nat} (Pv : Nat → L2.St → Hp → Prop) (h0 : Pv 0 σ H)
    (hs : ∀ i c σ H, l[i]? = some c → Pv i σ H → g (Tx [c]) σ H fun σ2 H2 => tb { D with nx := Pv (i + 1), ct := Pv (i + 1), bk := D.nx } σ2 H2) (hd : ∀ σ H, Pv l.length σ H → D.nx σ H) : ForX (Itx l) g tb D σ H :=
  forX_it walk_tx Pv h0 (fun _ _ _ _ _ => trivial) (fun i x σ H H' _ p ⟨e, c, hc, ex⟩ => by subst e ex; exact hs i c σ _ hc p) hd
theorem forX_list {p : Addr} {xs : List V} (Pv : Nat → L2.St → Hp → Prop) (h0 : Pv 0 σ H) (hG : ∀ i σ H, i ≤ xs.length → Pv i σ H → SqL K H p xs)
    (hs : ∀ i x σ H, xs[i]? = some x → Pv i σ H → g x σ H fun σ2 H2 => tb { D with nx := Pv (i + 1), ct := Pv (i + 1), bk := D.nx } σ2 H2) (hd : ∀ σ H, Pv xs.length σ H → D.nx σ H) : ForX (Itl K p) g tb D σ H :=
  forX_it walk_list Pv h0 hG (fun i x σ H H' _ p ⟨e, ex⟩ => by subst e; exact hs i x σ _ ex p) hd
theorem forX_tup {p : Addr} {xs : List V} (Pv : Nat → L2.St → Hp → Prop) (h0 : Pv 0 σ H) (hG : ∀ i σ H, i ≤ xs.length → Pv i σ H → SqT K H p xs)
    (hs : ∀ i x σ H, xs[i]? = some x → Pv i σ H → g x σ H fun σ2 H2 => tb { D with nx := Pv (i + 1), ct := Pv (i + 1), bk := D.nx } σ2 H2) (hd : ∀ σ H, Pv xs.length σ H → D.nx σ H) : ForX (Itt K p) g tb D σ H :=
  forX_it walk_tup Pv h0 hG (fun i x σ H H' _ p ⟨e, ex⟩ => by subst e; exact hs i x σ _ ex p) hd
theorem forX_range {lo : Int} (Pv : Nat → L2.St → Hp → Prop) (h0 : Pv 0 σ H)
    (hs : ∀ (i : Nat) σ H, i < n → Pv i σ H → g (.int (lo + i)) σ H fun σ2 H2 => tb { D with nx := Pv (i + 1), ct := Pv (i + 1), bk := D.nx } σ2 H2) (hd : ∀ σ H, Pv n σ H → D.nx σ H) : ForX (Itr lo n) g tb D σ H :=
  forX_it walk_range Pv h0 (fun _ _ _ _ _ => trivial) (fun i x σ H H' hi p ⟨e, ex⟩ => by subst e ex; exact hs i σ _ hi p) hd
theorem forX_range0 (Pv : Nat → L2.St → Hp → Prop) (h0 : Pv 0 σ H)
    (hs : ∀ (i : Nat) σ H, i < n → Pv i σ H → g (.int (i : Int)) σ H fun σ2 H2 => tb { D with nx := Pv (i + 1), ct := Pv (i + 1), bk := D.nx } σ2 H2) (hd : ∀ σ H, Pv n σ H → D.nx σ H) : ForX (Itr 0 n) g tb D σ H :=
  forX_range Pv h0 (fun i σ H hi p => by rw [Int.zero_add]; exact hs i σ H hi p) hd
end
/-! ### comprehensions -/
def LcX (J : It) (g : TG) (tt : TT) (te : TE) (vs : List Nat) (σ : L2.St) (H1 : Hp) (Q : VK) : Prop := ∀ D, H1 D = none → ∃ W : Nat → Nat → Hp → Prop, (∃ m, W 0 m (upd H1 D (.lst []))) ∧ ∀ i m H, W i m H →
  (J.stop i H ∧ Q (.ref D) H) ∨ (J.go i H ∧ ∃ Nx : Hp → Prop, (∀ H', Nx H' → ∃ m', m' < m ∧ W (i + 1) m' H') ∧ ∀ x H', J.yld i H x H' → g x (wipe σ vs) H' fun σ2 H2 => wipe σ2 vs = wipe σ vs ∧ tt σ2 H2 fun b H3 =>
    if b = true then te σ2 H3 fun y H4 => ∃ acc, H4 D = some (.lst acc) ∧ acc.length < sizeLine ∧ Nx (upd H4 D (.lst (acc ++ [y]))) else Nx H3)
theorem w_lc {wi : TI} {g : TG} {tt : TT} {te : TE} {vs : List Nat} (h : wi σ H fun J H1 => LcX J g tt te vs σ H1 Q) : tLc wi g tt te vs σ H Q := h
/-- a turn of a comprehension: the answer of the test, the item's datum -/
def LcStep (H1 : Hp) (d0 : List PyData) (G1 : List PyData → Prop) (tt : TT) (te : TE) (σ2 : L2.St) (H2 : Hp) : Prop :=
  tt σ2 H2 fun b H3 => if b = true then te σ2 H3 fun y H4 => Ex H1 H4 ∧ ∃ d, flatD d = true ∧ Rp H4 y d ∧ G1 (d0 ++ [d]) else Ex H1 H3 ∧ G1 d0
def LcInv (H : Hp) (D : Addr) (ds : List PyData) (n : Nat) (H' : Hp) : Prop := ∃ acc, H D = none ∧ Ex H H' ∧ H' D = some (.lst acc) ∧ RpAll H' acc ds ∧ flatDs ds = true ∧ acc.length ≤ n
theorem flatDs_append : ∀ {ds : List PyData} {d : PyData}, flatDs ds = true → flatD d = true → flatDs (ds ++ [d]) = true
  | [], d, _, h => by simp [flatDs, h]
  | e :: ds, d, h, h' => by
    have h2 : flatD e = true ∧ flatDs ds = true := by simpa [flatDs] using h
    show (flatD e && flatDs (ds ++ [d])) = true
    rw [h2.1, flatDs_append h2.2 h']; rfl
theorem lc_grow {H H5 : Hp} {D : Addr} {acc : List V} {y : V} {ds : List PyData} {d : PyData} {n : Nat} (h1 : H D = none) (h2 : Ex H H5) (h3 : H5 D = some (.lst acc)) (h4 : RpAll H5 acc ds) (h5 : flatDs ds = true) (h6 : acc.length ≤ n) (hy : Rp H5 y d) (hf : flatD d = true) :
    LcInv H D (ds ++ [d]) (n + 1) (upd H5 D (.lst (acc ++ [y]))) := by
  have et : ∀ b xs, H5 b = some (.tup xs) → upd H5 D (.lst (acc ++ [y])) b = some (.tup xs) := fun b xs hb => by
    rw [upd_ne (ne_of hb h3 (by intro q; cases q))]; exact hb
  refine ⟨acc ++ [y], h1, Ex.mut h2 h1, upd_same, (RpAll.exT et h5 h4).append (.one (Rp.exT et hf hy)), flatDs_append h5 hf, ?_⟩
  rw [List.length_append, List.length_singleton]; omega
section
variable {tt : TT} {te : TE} {J : It} {n : Nat} {G : Hp → Prop} {Y : Nat → Hp → V → Hp → Prop} {vs : List Nat}
theorem lcX_core {g : TG} {j : V → L2.St → L2.St} (hg : ∀ v σ H k, g v σ H k ↔ k (j v σ) H) (w : Walk J n G Y) (hz : n ≤ 100000) (Good : Nat → List PyData → Prop) (h0 : Good 0 []) (hG : ∀ H', Ex H H' → G H')
    (hs : ∀ i x H1 H2 d0, i < n → Ex H H1 → Good i d0 → Y i H1 x H2 → wipe (j x (wipe σ vs)) vs = wipe σ vs ∧ LcStep H1 d0 (Good (i + 1)) tt te (j x (wipe σ vs)) H2)
    (hd : ∀ p H2 acc ds, H p = none → Ex H H2 → H2 p = some (.lst acc) → RpAll H2 acc ds → Good n ds → acc.length ≤ n → Q (.ref p) H2) : LcX J g (tCutT tt) (tCutE te) vs σ H Q := by
  intro D hD
  refine lc_it (n := n) w (fun i H' => ∃ ds, Good i ds ∧ LcInv H D ds i H') ⟨[], h0, [], hD, Ex.new hD, upd_same, .nil, rfl, Nat.le_refl _⟩ (fun i H' _ ⟨_, _, _, _, e, _⟩ => hG H' e) (fun i x H1 H2 hi inv hY => ?_) (fun H' ⟨ds, gd, acc, _, e, h3, h4, _, h6⟩ => hd D H' acc ds hD e h3 h4 gd h6)
  obtain ⟨ds, gd, acc, _, e, h3, h4, h5, h6⟩ := inv
  obtain ⟨q1, q2⟩ := hs i x H1 H2 ds hi e gd hY
  rw [hg]
  refine ⟨q1, _, q2, fun b H3 z => ?_⟩
  cases b with
  | true =>
    simp only [if_true] at z ⊢
    refine ⟨_, z, fun y H4 ⟨e4, d, hf, hy, ed⟩ => ⟨acc, e4 _ _ h3, Nat.lt_of_le_of_lt (Nat.le_trans h6 (Nat.le_trans (Nat.le_of_lt hi) hz)) (by decide), _, ed, ?_⟩⟩
    exact lc_grow hD (e.trans e4) (e4 _ _ h3) (RpAll.ex e4 h4) h5 h6 hy hf
  | false =>
    simp only [Bool.false_eq_true, if_false] at z ⊢
    obtain ⟨e4, ed⟩ := z
    exact ⟨_, ed, acc, hD, e.trans e4, e4 _ _ h3, RpAll.ex e4 h4, h5, Nat.le_succ_of_le h6⟩
/-- for x in ..: one name -/
theorem lcX_rel {k : Nat} (w : Walk J n G Y) (hz : n ≤ 100000) (Good : Nat → List PyData → Prop) (h0 : Good 0 []) (hG : ∀ H', Ex H H' → G H')
    (hw : ∀ v, wipe ((wipe σ vs).set k (some v)) vs = wipe σ vs)
    (hs : ∀ i x H1 H2 d0, i < n → Ex H H1 → Good i d0 → Y i H1 x H2 → LcStep H1 d0 (Good (i + 1)) tt te ((wipe σ vs).set k (some x)) H2)
    (hd : ∀ p H2 acc ds, H p = none → Ex H H2 → H2 p = some (.lst acc) → RpAll H2 acc ds → Good n ds → acc.length ≤ n → Q (.ref p) H2) : LcX J (gName k) (tCutT tt) (tCutE te) vs σ H Q :=
  lcX_core (j := fun x σ => σ.set k (some x)) (fun _ _ _ _ => Iff.rfl) w hz Good h0 hG (fun i x H1 H2 d0 hi e g y => ⟨hw x, hs i x H1 H2 d0 hi e g y⟩) hd
theorem lcX_1 {k : Nat} (w : Walk J n G Y) (hz : n ≤ 100000) (ds : Nat → List PyData) (h0 : ds 0 = []) (hG : ∀ H', Ex H H' → G H')
    (hw : ∀ v, wipe ((wipe σ vs).set k (some v)) vs = wipe σ vs)
    (hs : ∀ i x H1 H2, i < n → Ex H H1 → Y i H1 x H2 → LcStep H1 (ds i) (fun d => d = ds (i + 1)) tt te ((wipe σ vs).set k (some x)) H2)
    (hd : ∀ p H2 acc, H p = none → Ex H H2 → H2 p = some (.lst acc) → RpAll H2 acc (ds n) → acc.length ≤ n → Q (.ref p) H2) : LcX J (gName k) (tCutT tt) (tCutE te) vs σ H Q :=
  lcX_rel w hz (fun i d => d = ds i) h0.symm hG hw (fun i x H1 H2 d0 hi e g y => by subst g; exact hs i x H1 H2 hi e y) (fun p H2 acc ds' hp e h r g hl => by subst g; exact hd p H2 acc hp e h r hl)
end
theorem w_yes {Q : Bool → Hp → Prop} (h : Q true H) : tYes σ H Q := h
end
/-! ### the rules, the written part named (within a comprehension it can't be read off) -/
section
variable {X : Cx} {K : PySem.W.Frag}
theorem op_eqK (hK : X.K = K) (hu : X.A.units + 64 < cLine) : OpR X (compareOp .Eq) (rEqU K) := hK ▸ op_eqU hu
theorem op_neK (hK : X.K = K) (hu : X.A.units + 64 < cLine) : OpR X (compareOp .NotEq) (rNeU K) := hK ▸ op_neU hu
theorem op_inK (hK : X.K = K) : OpR X (compareOp .In) (rInU K) := hK ▸ op_inU
theorem op_notInK (hK : X.K = K) : OpR X (compareOp .NotIn) (rNotInU K) := hK ▸ op_notInU
theorem ix_K (hK : X.K = K) : IxR X (rIxU K) := hK ▸ ix_U
theorem call_lenK (hK : X.K = K) : CallR X (.builtin "len") (rLenU K) := hK ▸ call_lenU
theorem call_listK (hK : X.K = K) (hc : X.calm = true) : CallR X (.type "list") (rListU K) := hK ▸ call_listU hc
theorem mt_joinK (hK : X.K = K) : MtR X "str.join" (rJoinX K) := hK ▸ mt_joinX
theorem call_anyK (hK : X.K = K) (hc : X.calm = true) : CallR X (.builtin "any") (rAny K) := hK ▸ cr_any hc
theorem call_allK (hK : X.K = K) (hc : X.calm = true) : CallR X (.builtin "all") (rAll K) := hK ▸ cr_all hc
theorem pi_anyK {tg e : Expr} {te : TE} (hK : X.K = K) (he : PE X e te) : PI X tg e (iAny K te) := hK ▸ pi_any he
theorem pg_tupK {es : List Expr} {k : Nat} {t : TGs} {pos : Pos} {n : Nat} (hK : X.K = K) (hc : X.calm = true) (h : PGs X es t)
    (hn : (assignEach es X.env).length = n := by rfl) (hst : (assignEach es X.env).findIdx? (·.1) = none := by rfl) : PG X (.Tuple es k pos) (gTup K n t) := hK ▸ pg_tup hc h hn hst
theorem pe_bm0K {o : Expr} {name : Str} {apos cpos : Pos} {T id : String} {r : V → List V → Hp → VK → Prop} {to : TE} (hK : X.K = K) (pa : PlainAttrs T) (slot : Slot T name id) (hty : typeOf (.builtin id) = pure (.type "method_descriptor")) (hm : MtR X id r) (ho : PE X o to)
    (hbase : attributeBase o name X.env (eval o X.env) = eval o X.env := by rfl) (hline : (apos.endLine == cpos.line) = true := by rfl) : PE X (.Call (.Attribute o name apos) [] [] cpos) (tBM0 K T r to) := hK ▸ pe_bm0 pa slot hty hm ho hbase hline
theorem pe_bmK {o e : Expr} {es : List Expr} {name : Str} {apos cpos : Pos} {T id : String} {r : V → List V → Hp → VK → Prop} {to : TE} {t : TA} (hK : X.K = K) (pa : PlainAttrs T) (slot : Slot T name id) (hty : typeOf (.builtin id) = pure (.type "method_descriptor")) (hm : MtR X id r) (ho : PE X o to) (ha : PA X (e :: es) t)
    (hbase : attributeBase o name X.env (eval o X.env) = eval o X.env := by rfl)
    (hfew : ((backTo cpos (starEach (e :: es) X.env)).all (fun x => !x.1) && (backToKw cpos (keywordEach [] X.env)).all (fun x => x.1.isSome)
      && decide ((e :: es).length + ([] : List Keyword).length + (if ([] : List Keyword).isEmpty then 0 else 1) < 30)) = true := by rfl)
    (hline : (apos.endLine == cpos.line) = true := by rfl) (hs : starEach (e :: es) X.env = (false, eval e X.env) :: starEach es X.env := by rfl) (hplain : (backTo cpos (starEach es X.env)).any (·.1) = false := by rfl) :
    PE X (.Call (.Attribute o name apos) (e :: es) [] cpos) (tBM K T r to t) := hK ▸ pe_bm pa slot hty hm ho ha hbase hfew hline hs hplain
theorem pi_enumK {e : Expr} {ta : TA} {p pos tpos : Pos} {elts : List Expr} {kk : Nat} (hK : X.K = K) (hg : Gl X "enumerate") (hm : X.mg "enumerate" = none) (ha : PA X [e] ta) (hs : starEach [e] X.env = [(false, eval e X.env)] := by rfl) :
    PI X (.Tuple elts kk tpos) (.Call (.Name "enumerate" p) [e] [] pos) (iEnum K ta) := hK ▸ pi_enum hg hm ha hs
theorem pi_zipK {e e2 : Expr} {ta : TA} {p pos tpos : Pos} {elts : List Expr} {kk : Nat} (hK : X.K = K) (hg : Gl X "zip") (hm : X.mg "zip" = none) (ha : PA X [e, e2] ta)
    (hs : starEach [e, e2] X.env = (false, eval e X.env) :: starEach [e2] X.env := by rfl) (hpl : (backTo pos (starEach [e2] X.env)).any (·.1) = false := by rfl) :
    PI X (.Tuple elts kk tpos) (.Call (.Name "zip" p) [e, e2] [] pos) (iZip K ta) := hK ▸ pi_zip hg hm ha hs hpl
end
end Lt
/-! Lt6: data that may be compared; signs, rows, turns as plain functions. -/
namespace Lt
open PySem PySem.Spec PyProof.Rows L2 Evl
open SX (S)

/-! ### data that may be compared -/
/-- flat: None, truths, ints, texts of signs; tuples and lists of such; n: how deep -/
def okD (n : Nat) (d : PyData) : Prop := d.canLay0 = true ∧ d.depth ≤ n
theorem okD.mono {m n : Nat} {d : PyData} (h : okD m d) (hn : m ≤ n) : okD n d := ⟨h.1, Nat.le_trans h.2 hn⟩
theorem okD.shaped {n : Nat} {d : PyData} (h : okD n d) (hn : n ≤ 64 := by decide) : SeqAt.shaped d = true := by
  unfold SeqAt.shaped
  rw [h.1, decide_eq_true (Nat.le_trans h.2 hn)]; rfl
theorem okD_none : okD 1 .none := ⟨rfl, by simp [PyData.depth]⟩
theorem okD_bool (b : Bool) : okD 1 (.bool b) := ⟨rfl, by simp [PyData.depth]⟩
theorem okD_int (i : Int) : okD 1 (.int i) := ⟨rfl, by simp [PyData.depth]⟩
theorem okD_str {x : Str} (h : PyData.strOk x = true) : okD 1 (.str x) := ⟨h, by simp [PyData.depth]⟩
theorem okD_tx {l : List Nat} (h : ∀ c ∈ l, c < 1114112) : okD 1 (.str (S l)) := okD_str (by
  unfold PyData.strOk
  rw [← Array.all_toList]
  exact List.all_eq_true.mpr fun c hc => decide_eq_true (h c hc))
theorem canAll {ds : List PyData} (h : ∀ d ∈ ds, d.canLay0 = true) : PyData.canLayAll0 ds = true := by
  induction ds with
  | nil => rfl
  | cons d ds ih =>
    show (d.canLay0 && PyData.canLayAll0 ds) = true
    rw [h d (by simp), ih fun e he => h e (by simp [he])]; rfl
theorem depthAll_le {n : Nat} {ds : List PyData} (h : ∀ d ∈ ds, d.depth ≤ n) : PyData.depthAll ds ≤ n := by
  induction ds with
  | nil => simp [PyData.depthAll]
  | cons d ds ih =>
    have h1 := h d (by simp)
    have h2 := ih fun e he => h e (by simp [he])
    simp only [PyData.depthAll]
    omega
theorem okD_list {n : Nat} {ds : List PyData} (h : ∀ d ∈ ds, okD n d) : okD (n + 1) (.list ds) := ⟨canAll fun d hd => (h d hd).1, by
  have := depthAll_le fun d hd => (h d hd).2
  simp only [PyData.depth]; omega⟩
theorem okD_tup {n : Nat} {ds : List PyData} (h : ∀ d ∈ ds, okD n d) : okD (n + 1) (.tuple ds) := ⟨canAll fun d hd => (h d hd).1, by
  have := depthAll_le fun d hd => (h d hd).2
  simp only [PyData.depth]; omega⟩
theorem eqv_self {n : Nat} {d : PyData} (h : okD n d) : PyData.eqv d d = true := SeqAt.eqv_refl d h.1
theorem eqv_nil (ds : List PyData) : PyData.eqv (.list ds) (.list []) = ds.isEmpty := by
  cases ds with
  | nil => rfl
  | cons d ds => rfl
theorem eqv_nilT (ds : List PyData) : PyData.eqv (.tuple ds) (.tuple []) = ds.isEmpty := by
  cases ds with
  | nil => rfl
  | cons d ds => rfl
/-- a list's items as data -/
theorem rpall_of {H : Hp} {n : Nat} : ∀ {xs : List V}, (∀ x ∈ xs, ∃ d, okD n d ∧ Rp H x d) → ∃ ds, RpAll H xs ds ∧ ∀ d ∈ ds, okD n d
  | [], _ => ⟨[], .nil, by simp⟩
  | x :: xs, h => by
    obtain ⟨d, h1, h2⟩ := h x (by simp)
    obtain ⟨ds, h3, h4⟩ := rpall_of (xs := xs) fun y hy => h y (by simp [hy])
    exact ⟨d :: ds, .cons h2 h3, by intro e he; rcases List.mem_cons.mp he with rfl | he; exact h1; exact h4 e he⟩
theorem rpall_mem {H : Hp} : ∀ {xs : List V} {ds : List PyData}, RpAll H xs ds → ∀ x ∈ xs, ∃ d ∈ ds, Rp H x d
  | _, _, .nil, x, h => by simp at h
  | _, _, .cons (d := d) h1 h2, x, h => by
    rcases List.mem_cons.mp h with rfl | h
    · exact ⟨d, by simp, h1⟩
    · obtain ⟨e, he, r⟩ := rpall_mem h2 x h
      exact ⟨e, by simp [he], r⟩
theorem erase_perm : ∀ {α : Type} (l : List α) (i : Nat) (y : α), l[i]? = some y → (y :: l.eraseIdx i).Perm l
  | _, [], i, y, h => by simp at h
  | _, x :: l, 0, y, h => by
    simp at h; subst h
    exact List.Perm.refl _
  | _, x :: l, i + 1, y, h => by
    have h' : l[i]? = some y := by simpa using h
    rw [List.eraseIdx_cons_succ]
    exact (List.Perm.swap x y _).trans ((erase_perm l i y h').cons x)
/-! ### signs -/
def abcS : List Nat := [97, 98, 99, 100, 101, 102, 103, 104]
theorem abc_lt {c : Nat} (h : c ∈ abcS) : c < 1114112 := by
  simp [abcS] at h; omega
def SignSeq (H : Hp) (v : V) (ss : List Nat) : Prop := v = Tx ss ∨ ∃ p, v = .ref p ∧ H p = some (.lst (ss.map fun c => Tx [c]))
theorem signs_ok {H : Hp} {l : List Nat} (h : ∀ c ∈ l, c < 1114112) : ∀ x ∈ l.map (fun c => Tx [c]), ∃ d, okD 60 d ∧ Rp H x d := fun x hx => by
  obtain ⟨c, hc, rfl⟩ := List.mem_map.mp hx
  exact ⟨.str (S [c]), (okD_tx (l := [c]) (fun d hd => by rw [List.mem_singleton.mp hd]; exact h c hc)).mono (by decide), .str _⟩
theorem SignSeq.ex {H H' : Hp} {v : V} {ss : List Nat} (h : SignSeq H v ss) (e : Ex H H') : SignSeq H' v ss := by
  rcases h with h | ⟨p, h1, h2⟩
  · exact .inl h
  · exact .inr ⟨p, h1, e _ _ h2⟩
/-- a sign of a text or a list of signs -/
theorem w_ixQ {K : PySem.W.Frag} {H : Hp} {Q : VK} {v : V} {ss : List Nat} {i : Int} (hq : SignSeq H v ss) (hl : ss.length ≤ sizeLine) (h0 : 0 ≤ i) (h1 : i < (ss.length : Int)) (h : ∀ c, ss[i.toNat]? = some c → Q (Tx [c]) H) : rIxU K v (.int i) H Q := by
  rcases hq with rfl | ⟨p, rfl, hp⟩
  · exact w_ixX hl h0 h1 h
  · refine w_ixL hp h0 (by simpa using h1) fun v hv => ?_
    simp at hv
    obtain ⟨c, hc, rfl⟩ := hv
    exact h c hc
theorem w_lenQ {K : PySem.W.Frag} {H : Hp} {Q : VK} {v : V} {ss : List Nat} (hq : SignSeq H v ss) (hl : ss.length ≤ sizeLine) (h : Q (.int (ss.length : Int)) H) : rLenU K [v] H Q := by
  rcases hq with rfl | ⟨p, rfl, hp⟩
  · exact w_lenX hl h
  · refine w_lenL hp ?_
    simpa using h
theorem joinL_nil : ∀ l : List (List Nat), TL.joinL [] l = l.flatten
  | [] => rfl
  | [x] => by simp [TL.joinL]
  | x :: y :: l => by
    have h := joinL_nil (y :: l)
    simp only [TL.joinL, h]
    simp
theorem joinL_signs (l : List Nat) : TL.joinL [] (l.map fun c => [c]) = l := by
  rw [joinL_nil]
  induction l with
  | nil => rfl
  | cons c l ih => simp [ih]
theorem rpall_signs {α : Type} {H : Hp} {g : α → Nat} : ∀ {l : List α} {acc : List V}, RpAll H acc (l.map fun x => .str (S [g x])) → acc = (l.map g).map fun c => Tx [c]
  | [], _, h => rpall_nil h
  | x :: l, _, h => by
    obtain ⟨v, ws, rfl, h1, h2⟩ := rpall_cons h
    rw [rp_str h1, rpall_signs h2]; rfl
theorem rpall_txs {α : Type} {H : Hp} {g : α → List Nat} : ∀ {l : List α} {acc : List V}, RpAll H acc (l.map fun x => .str (S (g x))) → acc = (l.map g).map fun c => Tx c
  | [], _, h => rpall_nil h
  | x :: l, _, h => by
    obtain ⟨v, ws, rfl, h1, h2⟩ := rpall_cons h
    rw [rp_str h1, rpall_txs h2]; rfl
theorem w_join1 {K : PySem.W.Frag} {H : Hp} {Q : VK} {p : Addr} {l : List Nat} (hp : H p = some (.lst (l.map fun c => Tx [c]))) (hl : l.length ≤ 16777216) (h : Q (Tx l) H) : rJoinX K (Tx []) [.ref p] H Q := by
  refine w_join (ls := l.map fun c => [c]) (by rw [List.map_map]; exact hp) ?_ (by rw [joinL_signs]; exact h)
  have e2 : ((l.map fun c => [c]).map List.length) = List.replicate l.length 1 := by
    rw [List.map_map]
    exact List.map_const' ..
  rw [e2]
  simp only [List.sum_replicate_nat, List.length_map, List.length_nil, Nat.mul_one, Nat.mul_zero, Nat.add_zero]
  exact hl
theorem perm_map {α β : Type} {f : α → β} : ∀ {ys : List β} {l : List α}, ys.Perm (l.map f) → ∃ m : List α, m.Perm l ∧ ys = m.map f := by
  intro ys l h
  generalize hx : l.map f = xs at h
  induction h generalizing l with
  | nil => cases l with
    | nil => exact ⟨[], .refl _, rfl⟩
    | cons a l => simp at hx
  | cons y _ ih => cases l with
    | nil => simp at hx
    | cons a l =>
      simp at hx
      obtain ⟨h1, h2⟩ := hx
      obtain ⟨m, hm, e⟩ := ih h2
      exact ⟨a :: m, hm.cons a, by simp [h1, e]⟩
  | swap x y ys => cases l with
    | nil => simp at hx
    | cons a l => cases l with
      | nil => simp at hx
      | cons b l =>
        simp at hx
        obtain ⟨h1, h2, h3⟩ := hx
        exact ⟨b :: a :: l, .swap a b l, by simp [h1, h2, h3]⟩
  | trans _ _ ih1 ih2 =>
    obtain ⟨m, hm, e⟩ := ih2 hx
    obtain ⟨m', hm', e'⟩ := ih1 e.symm
    exact ⟨m', hm'.trans hm, e'⟩
theorem cutL_map {α β : Type} (f : α → β) (l : List α) (lo hi : Option Int) : cutL (l.map f) lo hi = (cutL l lo hi).map f := by
  unfold cutL
  rw [List.length_map, ← List.map_drop, ← List.map_take]
theorem cutL_to {α : Type} (l : List α) {k : Int} (hk : 0 ≤ k) : cutL l none (some k) = l.take k.toNat := by
  obtain ⟨n, rfl⟩ : ∃ n : Nat, k = n := ⟨k.toNat, by omega⟩
  unfold cutL
  rw [HT.sIx_none, HT.sIx_nat]
  simp only [List.drop_zero, Nat.sub_zero, Int.toNat_natCast]
  rw [Nat.min_def]
  split
  · rfl
  · rw [List.take_of_length_le (Nat.le_refl _), List.take_of_length_le (by omega)]
theorem cutL_from {α : Type} (l : List α) {k : Int} (hk : 0 ≤ k) : cutL l (some k) none = l.drop k.toNat := by
  obtain ⟨n, rfl⟩ : ∃ n : Nat, k = n := ⟨k.toNat, by omega⟩
  unfold cutL
  rw [HT.sIx_none, HT.sIx_nat]
  simp only [Int.toNat_natCast]
  rw [Nat.min_def]
  split
  · rw [List.take_of_length_le (by simp)]
  · rw [List.drop_of_length_le (Nat.le_refl _), List.drop_of_length_le (by omega)]; simp
theorem cutL_both {α : Type} (l : List α) {k m : Int} (hk : 0 ≤ k) (hm : 0 ≤ m) : cutL l (some k) (some m) = (l.drop k.toNat).take (m.toNat - k.toNat) := by
  obtain ⟨n, rfl⟩ : ∃ n : Nat, k = n := ⟨k.toNat, by omega⟩
  obtain ⟨q, rfl⟩ : ∃ n : Nat, m = n := ⟨m.toNat, by omega⟩
  unfold cutL
  rw [HT.sIx_nat, HT.sIx_nat]
  simp only [Int.toNat_natCast]
  by_cases h : n ≤ l.length
  · rw [Nat.min_eq_left h]
    by_cases h2 : q ≤ l.length
    · rw [Nat.min_eq_left h2]
    · rw [Nat.min_eq_right (by omega), List.take_of_length_le (by simp), List.take_of_length_le (by simp; omega)]
  · rw [Nat.min_eq_right (show l.length ≤ n by omega), List.drop_of_length_le (Nat.le_refl _), List.drop_of_length_le (show l.length ≤ n by omega)]; simp
/-! ### turns -/
def turnM (row : List Nat) (h t : Nat) : List Nat := row.take h ++ ((row.drop h).take (t + 1 - h)).reverse ++ row.drop (t + 1)
def turnsIn (row held : List Nat) (h j : Nat) : List (Nat × Nat) :=
  if row.getD h 0 ∈ held then [] else ((List.range' (h + 1) j).filter fun t => decide (row.getD t 0 = row.getD h 0)).map fun t => (h, t)
def turnsAt (row held : List Nat) (h : Nat) : List (Nat × Nat) := turnsIn row held h (row.length - (h + 1))
theorem turnsIn_more (row held : List Nat) (h j : Nat) : turnsIn row held h (j + 1) = turnsIn row held h j ++ (if row.getD h 0 ∉ held ∧ row.getD (h + 1 + j) 0 = row.getD h 0 then [(h, h + 1 + j)] else []) := by
  unfold turnsIn
  by_cases h1 : row.getD h 0 ∈ held
  · rw [if_pos h1, if_pos h1, if_neg (fun q => q.1 h1)]; rfl
  · rw [if_neg h1, if_neg h1, List.range'_1_concat, List.filter_append, List.map_append]
    by_cases h2 : row.getD (h + 1 + j) 0 = row.getD h 0
    · rw [if_pos ⟨h1, h2⟩]
      simp only [List.filter_cons, List.filter_nil]
      rw [if_pos (by simpa using h2)]; rfl
    · rw [if_neg (fun q => h2 q.2)]
      simp only [List.filter_cons, List.filter_nil]
      rw [if_neg (by simpa using h2)]; rfl
def turnsM (row held : List Nat) : List (Nat × Nat) := (List.range row.length).flatMap (turnsAt row held)
theorem turns_more (row held : List Nat) (i : Nat) : (List.range (i + 1)).flatMap (turnsAt row held) = (List.range i).flatMap (turnsAt row held) ++ turnsAt row held i := by
  rw [List.range_succ, List.flatMap_append]
  simp
def dPair (q : Nat × Nat) : PyData := .tuple [.int q.1, .int q.2]
theorem okD_pair (q : Nat × Nat) : okD 2 (dPair q) := okD_tup fun d hd => by
  simp at hd
  rcases hd with rfl | rfl <;> exact okD_int _
theorem flat_pair (q : Nat × Nat) : flatD (dPair q) = true := rfl
theorem rp_pair {H : Hp} {T : Addr} {a b : Nat} (h : H T = some (.tup [.int a, .int b])) : Rp H (.ref T) (dPair (a, b)) := .tup h (.cons (.int _) (.cons (.int _) .nil))
theorem rp_pair_inv {H : Hp} {v : V} {q : Nat × Nat} (h : Rp H v (dPair q)) : ∃ T, v = .ref T ∧ H T = some (.tup [.int q.1, .int q.2]) := by
  obtain ⟨a, xs, rfl, h1, h2⟩ := rp_tup h
  obtain ⟨v1, w1, rfl, r1, h2⟩ := rpall_cons h2
  obtain ⟨v2, w2, rfl, r2, h2⟩ := rpall_cons h2
  rw [rpall_nil h2, rp_int r1, rp_int r2] at h1
  exact ⟨a, rfl, h1⟩
/-- a list that grows in a loop -/
theorem LcInv.start {H H1 : Hp} {p : Addr} (hp : H p = none) (e : Ex H H1) (h : H1 p = some (.lst [])) : LcInv H p [] 0 H1 := ⟨[], hp, e, h, .nil, rfl, Nat.le_refl _⟩
theorem LcInv.ex {H H1 H2 : Hp} {p : Addr} {ds : List PyData} {n m : Nat} (i : LcInv H p ds n H1) (e : Ex H1 H2) (hn : n ≤ m) : LcInv H p ds m H2 := by
  obtain ⟨acc, h1, h2, h3, h4, h5, h6⟩ := i
  exact ⟨acc, h1, h2.trans e, e _ _ h3, h4.ex e, h5, Nat.le_trans h6 hn⟩
/-- behind an append -/
theorem LcInv.app {H H1 H2 : Hp} {p : Addr} {acc : List V} {y : V} {ds : List PyData} {d : PyData} {n : Nat} (h1 : H p = none) (h2 : Ex H H1) (h3 : H1 p = some (.lst acc)) (h4 : RpAll H1 acc ds) (h5 : flatDs ds = true) (h6 : acc.length ≤ n)
    (hy : Rp H1 y d) (hf : flatD d = true) (b : ExB p H1 H2) (h7 : H2 p = some (.lst (acc ++ [y]))) : LcInv H p (ds ++ [d]) (n + 1) H2 := by
  have et : ∀ b' xs, H1 b' = some (.tup xs) → H2 b' = some (.tup xs) := fun b' xs hb => b b' _ (ne_of hb h3 (by intro q; cases q)) hb
  refine ⟨acc ++ [y], h1, Ex.but h2 b h1, h7, (RpAll.exT et h5 h4).append (.one (Rp.exT et hf hy)), flatDs_append h5 hf, ?_⟩
  rw [List.length_append, List.length_singleton]; omega
end Lt
/-! Lt7: defs with keyword-only parameters. -/
namespace Lt
open PySem PySem.Spec PyProof.Rows L2 Evl
open SX (S)
abbrev appU (us ws : List Value) : List Value := us ++ ws
def appV (vs zs : List V) : List V := vs ++ zs
section
variable {K : PySem.W.Frag} {x qual : Str} {params : Arguments} {body : List Stmt} {scope : Scope} {kws : List (Str × V)} {f : Addr} {fd : FuncData} {ps : List Str}
theorem kbn (F : FunD K x qual params body scope [] kws f fd) (n : Nat) (ks : List Str)
    (h : ∀ (kV doc pm : Value) (an : Option Addr) (cdv ct : Value) (us ws : List Value), us.length = n → ws.length = ks.length → bindArgs (PySem.W.fnOf x qual params body scope .none kV doc pm an cdv ct) ⟨us, ks.zip ws⟩ = pure (ps.zip (us ++ ws))) :
    KBn K fd ps n ks appU appV := by
  obtain ⟨oc, od, dV, kV, doc, pm, an, cdv, ct, osl, rfl, lk, hcd, hD, hK⟩ := F.ex
  rcases hD with ⟨_, rfl⟩ | ⟨e, _⟩
  · exact ⟨fun s us ws X l1 l2 => .of_eq (h kV doc pm an cdv ct us ws l1 l2), fun r1 r2 => r1.append r2⟩
  · exact absurd rfl e
end
/-- a def with keyword-only parameters ks, dvs their defaults ([]: none) -/
structure HasK (P : Program) (w : World) (K : PySem.W.Frag) (mg : Str → Option Value) (base : Heap) (CX : CXT) (k : Nat) (x : Str) (ps : List Str) (n : Nat) (ks : List Str) (dvs : List V) (sp : Sp) : Prop where
  ex : ∃ (f : Addr) (fd : FuncData) (ds : List Value), mg x = some (.ref f) ∧ PySem.W.keepIn K (.ref f) = true ∧ KBn K fd ps n ks appU appV ∧ (dvs = [] ∨ Vals dvs ds ∧ Binds K fd ps ds) ∧ FnOk P w K mg base CX k f fd ps sp
section
variable {σ : L2.St} {H : Hp} {Q : VK} {sp : Sp} {E : XK} {a b c d e : V} {n m : Nat} {t tk : TA} {gV : List V → List V → List V}
theorem w_callK (h : t σ H fun vs H1 => tk σ H1 fun zs H2 => vs.length = n ∧ zs.length = m ∧ sp (gV vs zs) H2 Q E) : tCallN n m sp gV E t tk σ H Q := h
theorem w_kb1 {y : Str} (h : sp [a, b] H Q E) : [a].length = 1 ∧ [b].length = [y].length ∧ sp (appV [a] [b]) H Q E := ⟨rfl, rfl, h⟩
theorem w_kb2 {y : Str} (h : sp [a, b, c] H Q E) : [a, b].length = 2 ∧ [c].length = [y].length ∧ sp (appV [a, b] [c]) H Q E := ⟨rfl, rfl, h⟩
theorem w_kb3 {y : Str} (h : sp [a, b, c, d] H Q E) : [a, b, c].length = 3 ∧ [d].length = [y].length ∧ sp (appV [a, b, c] [d]) H Q E := ⟨rfl, rfl, h⟩
theorem w_isT {n t : String} (ht : Tg H a t) (hn : n ∈ ["int", "bool", "str", "tuple", "list"]) (hb : isiB t n = true) (h : Q (.bl true) H) : rIsU [a, .ty n] H Q := w_is ht hn (by rw [hb]; exact h)
theorem w_isF {n t : String} (ht : Tg H a t) (hn : n ∈ ["int", "bool", "str", "tuple", "list"]) (hb : isiB t n = false) (h : Q (.bl false) H) : rIsU [a, .ty n] H Q := w_is ht hn (by rw [hb]; exact h)
theorem w_itT {A B : Prop} (h : A) : if true = true then A else B := h
theorem w_itF {A B : Prop} (h : B) : if false = true then A else B := h
theorem w_itNT {A B : Prop} (h : B) : if (!true) = true then A else B := h
theorem w_itNF {A B : Prop} (h : A) : if (!false) = true then A else B := h
theorem w_kd1 (h : sp [a, b] H Q E) : sp ([a] ++ [b]) H Q E := h
theorem w_kd2 (h : sp [a, b, c] H Q E) : sp ([a, b] ++ [c]) H Q E := h
theorem w_kd3 (h : sp [a, b, c, d] H Q E) : sp ([a, b, c] ++ [d]) H Q E := h
end
/-! ### comprehensions of truths; pairs -/
theorem rpall_bools {α : Type} {H : Hp} {g : α → Bool} : ∀ {l : List α} {acc : List V}, RpAll H acc (l.map fun x => .bool (g x)) → acc = (l.map g).map V.bl
  | [], acc, h => by cases h; rfl
  | x :: l, acc, h => by
    obtain ⟨v, ws, rfl, hv, hw⟩ := rpall_cons h
    rw [rp_bool hv, rpall_bools hw]; rfl
section
variable {K : PySem.W.Frag} {σ : L2.St} {H : Hp} {Q : VK} {tt : TT} {te : TE} {J : It} {n : Nat} {G : Hp → Prop} {Y : Nat → Hp → V → Hp → Prop} {vs : List Nat}
theorem lcX_coreG {g : TG} (w : Walk J n G Y) (hz : n ≤ 100000) (Good : Nat → List PyData → Prop) (h0 : Good 0 []) (hG : ∀ H', Ex H H' → G H')
    (hs : ∀ i x H1 H2 d0, i < n → Ex H H1 → Good i d0 → Y i H1 x H2 → ∃ σ', wipe σ' vs = wipe σ vs ∧ (∀ k : L2.St → Hp → Prop, k σ' H2 → g x (wipe σ vs) H2 k) ∧ LcStep H1 d0 (Good (i + 1)) tt te σ' H2)
    (hd : ∀ p H2 acc ds, H p = none → Ex H H2 → H2 p = some (.lst acc) → RpAll H2 acc ds → Good n ds → acc.length ≤ n → Q (.ref p) H2) : LcX J g (tCutT tt) (tCutE te) vs σ H Q := by
  intro D hD
  refine lc_it (n := n) w (fun i H' => ∃ ds, Good i ds ∧ LcInv H D ds i H') ⟨[], h0, [], hD, Ex.new hD, upd_same, .nil, rfl, Nat.le_refl _⟩ (fun i H' _ ⟨_, _, _, _, e, _⟩ => hG H' e) (fun i x H1 H2 hi inv hY => ?_) (fun H' ⟨ds, gd, acc, _, e, h3, h4, _, h6⟩ => hd D H' acc ds hD e h3 h4 gd h6)
  obtain ⟨ds, gd, acc, _, e, h3, h4, h5, h6⟩ := inv
  obtain ⟨σ', q1, q2, q3⟩ := hs i x H1 H2 ds hi e gd hY
  refine q2 _ ⟨q1, _, q3, fun b H3 z => ?_⟩
  cases b with
  | true =>
    simp only [if_true] at z ⊢
    refine ⟨_, z, fun y H4 ⟨e4, d, hf, hy, ed⟩ => ⟨acc, e4 _ _ h3, Nat.lt_of_le_of_lt (Nat.le_trans h6 (Nat.le_trans (Nat.le_of_lt hi) hz)) (by decide), _, ed, ?_⟩⟩
    exact lc_grow hD (e.trans e4) (e4 _ _ h3) (RpAll.ex e4 h4) h5 h6 hy hf
  | false =>
    simp only [Bool.false_eq_true, if_false] at z ⊢
    obtain ⟨e4, ed⟩ := z
    exact ⟨_, ed, acc, hD, e.trans e4, e4 _ _ h3, RpAll.ex e4 h4, h5, Nat.le_succ_of_le h6⟩
abbrev g2 (K : PySem.W.Frag) (a b : Nat) : TG := gTup K 2 (gCons (gName a) (gCons (gName b) gNil))
theorem g2_ok {a b : Nat} {T : Addr} {x y : V} {k : L2.St → Hp → Prop} (h : H T = some (.tup [x, y])) (q : k ((σ.set a (some x)).set b (some y)) H) : g2 K a b (.ref T) σ H k :=
  w_gtup h rfl (w_gcons (w_gcons (w_gnil q)))
/-- for x, y in ..: pairs laid anew -/
theorem lcX_rel2 {a b : Nat} {R : Nat → List V → Prop} (w : Walk J n G (YNew R)) (hR : ∀ i xs, R i xs → ∃ x y, xs = [x, y]) (hz : n ≤ 100000) (Good : Nat → List PyData → Prop) (h0 : Good 0 []) (hG : ∀ H', Ex H H' → G H')
    (hw : ∀ v v', wipe (((wipe σ vs).set a (some v)).set b (some v')) vs = wipe σ vs)
    (hs : ∀ i x y H1 H2 d0, i < n → Ex H H1 → Good i d0 → R i [x, y] → Ex H1 H2 → LcStep H1 d0 (Good (i + 1)) tt te (((wipe σ vs).set a (some x)).set b (some y)) H2)
    (hd : ∀ p H2 acc ds, H p = none → Ex H H2 → H2 p = some (.lst acc) → RpAll H2 acc ds → Good n ds → acc.length ≤ n → Q (.ref p) H2) : LcX J (g2 K a b) (tCutT tt) (tCutE te) vs σ H Q :=
  lcX_coreG w hz Good h0 hG (fun i v H1 H2 d0 hi e g ⟨T, xs, ev, hT, e2, hT2, r⟩ => by
    obtain ⟨x, y, rfl⟩ := hR i xs r
    subst ev
    exact ⟨_, hw x y, fun k q => g2_ok hT2 q, hs i x y H1 H2 d0 hi e g r e2⟩) hd
theorem lcX_12 {a b : Nat} {R : Nat → List V → Prop} (w : Walk J n G (YNew R)) (hR : ∀ i xs, R i xs → ∃ x y, xs = [x, y]) (hz : n ≤ 100000) (ds : Nat → List PyData) (h0 : ds 0 = []) (hG : ∀ H', Ex H H' → G H')
    (hw : ∀ v v', wipe (((wipe σ vs).set a (some v)).set b (some v')) vs = wipe σ vs)
    (hs : ∀ i x y H1 H2, i < n → Ex H H1 → R i [x, y] → Ex H1 H2 → LcStep H1 (ds i) (fun d => d = ds (i + 1)) tt te (((wipe σ vs).set a (some x)).set b (some y)) H2)
    (hd : ∀ p H2 acc, H p = none → Ex H H2 → H2 p = some (.lst acc) → RpAll H2 acc (ds n) → acc.length ≤ n → Q (.ref p) H2) : LcX J (g2 K a b) (tCutT tt) (tCutE te) vs σ H Q :=
  lcX_rel2 w hR hz (fun i d => d = ds i) h0.symm hG hw (fun i x y H1 H2 d0 hi e g r e2 => by subst g; exact hs i x y H1 H2 hi e r e2) (fun p H2 acc ds' hp e h r g hl => by subst g; exact hd p H2 acc hp e h r hl)
theorem tYes_step {σ2 : L2.St} {H1 H2 : Hp} {d0 : List PyData} {G1 : List PyData → Prop} (h : te σ2 H2 fun y H4 => Ex H1 H4 ∧ ∃ d, flatD d = true ∧ Rp H4 y d ∧ G1 (d0 ++ [d])) : LcStep H1 d0 G1 tYes te σ2 H2 := by
  unfold LcStep
  refine w_yes ?_
  simp only [if_true]
  exact h
/-- [truth for x in ..] -/
theorem lcX_bl {k : Nat} (w : Walk J n G Y) (hz : n ≤ 100000) (g : Nat → Bool) (hG : ∀ H', Ex H H' → G H')
    (hw : ∀ v, wipe ((wipe σ vs).set k (some v)) vs = wipe σ vs)
    (hs : ∀ i x H1 H2 (Q' : VK), i < n → Ex H H1 → Y i H1 x H2 → (∀ H4, Ex H1 H4 → Q' (.bl (g i)) H4) → te ((wipe σ vs).set k (some x)) H2 Q')
    (hd : ∀ p H2, H p = none → Ex H H2 → H2 p = some (.lst (((List.range n).map g).map V.bl)) → Q (.ref p) H2) : LcX J (gName k) (tCutT tYes) (tCutE te) vs σ H Q :=
  lcX_1 w hz (fun i => (List.range i).map fun k => .bool (g k)) rfl hG hw (fun i x H1 H2 hi e y => tYes_step (hs i x H1 H2 _ hi e y fun H4 e4 => ⟨e4, .bool (g i), rfl, .bl _, by rw [range_more, List.map_append]; rfl⟩))
    (fun p H2 acc hp e h r _ => hd p H2 hp e (by rw [h, rpall_bools r]))
theorem lcX_bl2 {a b : Nat} {R : Nat → List V → Prop} (w : Walk J n G (YNew R)) (hR : ∀ i xs, R i xs → ∃ x y, xs = [x, y]) (hz : n ≤ 100000) (g : Nat → Bool) (hG : ∀ H', Ex H H' → G H')
    (hw : ∀ v v', wipe (((wipe σ vs).set a (some v)).set b (some v')) vs = wipe σ vs)
    (hs : ∀ i x y H1 H2 (Q' : VK), i < n → Ex H H1 → R i [x, y] → Ex H1 H2 → (∀ H4, Ex H1 H4 → Q' (.bl (g i)) H4) → te (((wipe σ vs).set a (some x)).set b (some y)) H2 Q')
    (hd : ∀ p H2, H p = none → Ex H H2 → H2 p = some (.lst (((List.range n).map g).map V.bl)) → Q (.ref p) H2) : LcX J (g2 K a b) (tCutT tYes) (tCutE te) vs σ H Q :=
  lcX_12 w hR hz (fun i => (List.range i).map fun k => .bool (g k)) rfl hG hw (fun i x y H1 H2 hi e r e2 => tYes_step (hs i x y H1 H2 _ hi e r e2 fun H4 e4 => ⟨e4, .bool (g i), rfl, .bl _, by rw [range_more, List.map_append]; rfl⟩))
    (fun p H2 acc hp e h r _ => hd p H2 hp e (by rw [h, rpall_bools r]))
/-- any/all of such a list -/
theorem any_range {g : Nat → Bool} {n : Nat} (h : ∀ i, i < n → g i = false) : ((List.range n).map g).any id = false := by
  simp only [List.any_map, List.any_eq_false, List.mem_range, Function.comp, id]
  intro i hi
  simp [h i hi]
theorem all_range {g : Nat → Bool} {n : Nat} (h : ∀ i, i < n → g i = true) : ((List.range n).map g).all id = true := by
  simp only [List.all_map, List.all_eq_true, List.mem_range, Function.comp, id]
  exact h
end
end Lt
/-! Lt8: extend, lists from the back, pairs in lists, _law_alike's data. -/
namespace Lt
open PySem PySem.Spec PyProof.Rows L2 Evl
open SX (S)
section
variable {K : PySem.W.Frag} {σ : L2.St} {H H1 H2 : Hp} {Q : VK} {xs zs : List V} {m b : Addr}
theorem w_ext (hp : H m = some (.lst xs)) (hb : H b = some (.lst zs)) (hl : xs.length + zs.length ≤ sizeLine) (h : ∀ H2, ExB m H H2 → H2 m = some (.lst (xs ++ zs)) → Q .non H2) : rExtend (.ref m) [.ref b] H Q :=
  ⟨m, b, xs, zs, rfl, rfl, hp, hb, hl, h _ ExB.upd upd_same⟩
theorem w_revL {te : TE} (h : te σ H fun x H1 => ∃ a xs, x = .ref a ∧ SqL K H1 a xs ∧ ∀ p, H1 p = none → Q (.ref p) (upd H1 p (.lst xs.reverse))) : tRevL K te σ H Q := h
theorem w_revLk {P : List V → Addr → Prop} (hp : H m = some (.lst xs)) (h : ∀ p, H p = none → P xs p) : ∃ a ys, V.ref m = .ref a ∧ SqL K H a ys ∧ ∀ p, H p = none → P ys p := ⟨m, xs, rfl, SqL.of hp, h⟩
theorem flatDs_app : ∀ {ds es : List PyData}, flatDs ds = true → flatDs es = true → flatDs (ds ++ es) = true
  | [], es, _, h => h
  | e :: ds, es, h, h' => by
    have h2 : flatD e = true ∧ flatDs ds = true := by simpa [flatDs] using h
    show (flatD e && flatDs (ds ++ es)) = true
    rw [h2.1, flatDs_app h2.2 h']; rfl
theorem flatDs_of : ∀ {ds : List PyData}, (∀ d ∈ ds, flatD d = true) → flatDs ds = true
  | [], _ => rfl
  | e :: ds, h => by
    show (flatD e && flatDs ds) = true
    rw [h e (by simp), flatDs_of fun d hd => h d (by simp [hd])]; rfl
theorem flat_pairs (l : List (Nat × Nat)) : flatDs (l.map dPair) = true := flatDs_of fun d hd => by
  obtain ⟨q, _, rfl⟩ := List.mem_map.mp hd
  rfl
/-- behind an extend -/
theorem LcInv.ext {H H1 H2 : Hp} {p : Addr} {acc ys : List V} {ds es : List PyData} {n m : Nat} (h1 : H p = none) (h2 : Ex H H1) (h3 : H1 p = some (.lst acc)) (h4 : RpAll H1 acc ds) (h5 : flatDs ds = true) (h6 : acc.length ≤ n)
    (hy : RpAll H1 ys es) (hf : flatDs es = true) (hl : ys.length ≤ m) (b : ExB p H1 H2) (h7 : H2 p = some (.lst (acc ++ ys))) : LcInv H p (ds ++ es) (n + m) H2 := by
  have et : ∀ b' xs, H1 b' = some (.tup xs) → H2 b' = some (.tup xs) := fun b' xs hb => b b' _ (ne_of hb h3 (by intro q; cases q)) hb
  refine ⟨acc ++ ys, h1, Ex.but h2 b h1, h7, (RpAll.exT et h5 h4).append (RpAll.exT et hf hy), flatDs_app h5 hf, ?_⟩
  rw [List.length_append]; omega
end
section
variable {K : PySem.W.Frag} {H : Hp} {Q : VK} {x : V}
theorem w_isN (h : Q (.bl true) H) : rIsN .non .non H Q := ⟨rfl, h⟩
theorem w_isNx (hx : x ≠ .non) (h : Q (.bl false) H) : rIsN x .non H Q := ⟨rfl, by rw [decide_eq_false hx]; exact h⟩
theorem w_notN (h : Q (.bl false) H) : rNotN .non .non H Q := ⟨rfl, h⟩
theorem w_notNx (hx : x ≠ .non) (h : Q (.bl true) H) : rNotN x .non H Q := ⟨rfl, by rw [decide_eq_false hx]; exact h⟩
theorem w_neB1 (h : Q (.bl false) H) : rNeU K (.bl true) (.bl true) H Q := w_neS rfl h
theorem w_neB2 (h : Q (.bl false) H) : rNeU K (.bl false) (.bl false) H Q := w_neS rfl h
theorem w_neB3 (h : Q (.bl true) H) : rNeU K (.bl true) (.bl false) H Q := w_neS rfl h
theorem w_neB4 (h : Q (.bl true) H) : rNeU K (.bl false) (.bl true) H Q := w_neS rfl h
theorem w_eqB {b : Bool} (h : Q (.bl true) H) : rEqU K (.bl b) (.bl b) H Q := w_eqS rfl (by rw [decide_eq_true rfl]; exact h)
theorem w_eqTs {l : List Nat} (h : Q (.bl true) H) : rEqU K (Tx l) (Tx l) H Q := w_eqT (by rw [decide_eq_true rfl]; exact h)
theorem w_eqStr {l : Str} (h : Q (.bl true) H) : rEqU K (.str l) (.str l) H Q := w_eqS rfl (by rw [decide_eq_true rfl]; exact h)
theorem w_eqIs {i : Int} (h : Q (.bl true) H) : rEqU K (.int i) (.int i) H Q := w_eqI (by rw [decide_eq_true rfl]; exact h)
end
section
variable {H : Hp} {Q : VK} {p : Addr} {xs : List V} {n : String}
theorem w_isLT (hp : H p = some (.lst xs)) (hn : n ∈ ["int", "bool", "str", "tuple", "list"]) (hb : isiB "list" n = true) (h : Q (.bl true) H) : rIsU [.ref p, .ty n] H Q := w_isT (Tg.lst hp) hn hb h
theorem w_isLF (hp : H p = some (.lst xs)) (hn : n ∈ ["int", "bool", "str", "tuple", "list"]) (hb : isiB "list" n = false) (h : Q (.bl false) H) : rIsU [.ref p, .ty n] H Q := w_isF (Tg.lst hp) hn hb h
theorem w_isUT (hp : H p = some (.tup xs)) (hn : n ∈ ["int", "bool", "str", "tuple", "list"]) (hb : isiB "tuple" n = true) (h : Q (.bl true) H) : rIsU [.ref p, .ty n] H Q := w_isT (Tg.tup hp) hn hb h
theorem w_isUF (hp : H p = some (.tup xs)) (hn : n ∈ ["int", "bool", "str", "tuple", "list"]) (hb : isiB "tuple" n = false) (h : Q (.bl false) H) : rIsU [.ref p, .ty n] H Q := w_isF (Tg.tup hp) hn hb h
end
end Lt
/-! Lt9: the plain law of turns; data that _law_alike compares. -/
namespace Lt
open PySem PySem.Spec PyProof.Rows L2 Evl
open SX (S)
/-- what bars a turn of two places -/
def whyM (row held : List Nat) (h t : Int) : List Nat :=
  if 0 ≤ h ∧ h < t ∧ t < row.length then (if row.getD h.toNat 0 ≠ row.getD t.toNat 0 then [117, 110, 108, 105, 107, 101] else if row.getD h.toNat 0 ∈ held then [112, 105, 110, 110, 101, 100] else []) else [112, 108, 97, 99, 101]
/-- turns made one behind another: each is allowed -/
def goesM (held : List Nat) : List Nat → List (Nat × Nat) → Prop
  | _, [] => True
  | row, q :: ts => whyM row held q.1 q.2 = [] ∧ goesM held (turnM row q.1 q.2) ts
def runM (row : List Nat) (ts : List (Nat × Nat)) : List Nat := ts.foldl (fun r q => turnM r q.1 q.2) row
theorem turnM_len {row : List Nat} {h t : Nat} (hh : h ≤ t) (ht : t < row.length) : (turnM row h t).length = row.length := by
  unfold turnM; simp; omega
theorem turnM_mem {row : List Nat} {h t : Nat} (hh : h ≤ t) : ∀ {c}, c ∈ turnM row h t → c ∈ row := by
  intro c hc
  unfold turnM at hc
  rw [List.mem_append, List.mem_append, List.mem_reverse] at hc
  rcases hc with (hc | hc) | hc
  · exact List.mem_of_mem_take hc
  · exact List.mem_of_mem_drop (List.mem_of_mem_take hc)
  · exact List.mem_of_mem_drop hc
theorem whyM_ok {row held : List Nat} {h t : Nat} (e : whyM row held h t = []) : h < t ∧ t < row.length := by
  unfold whyM at e
  split at e
  · omega
  · cases e
theorem goesM_more {held : List Nat} : ∀ {ts : List (Nat × Nat)} {row : List Nat} {i : Nat} {q : Nat × Nat}, goesM held row ts → ts[i]? = some q → whyM (runM row (ts.take i)) held q.1 q.2 = []
  | q :: ts, row, 0, q', g, h => by
    cases h
    exact g.1
  | q :: ts, row, i + 1, q', g, h => goesM_more (ts := ts) g.2 h
theorem runM_more {row : List Nat} {ts : List (Nat × Nat)} {i : Nat} {q : Nat × Nat} (h : ts[i]? = some q) : runM row (ts.take (i + 1)) = turnM (runM row (ts.take i)) q.1 q.2 := by
  rw [take_more h]
  unfold runM
  rw [List.foldl_append]; rfl
theorem turnsIn_mem {row held : List Nat} {h : Nat} : ∀ {j : Nat} {q : Nat × Nat}, q ∈ turnsIn row held h j → q.1 = h ∧ h < q.2 ∧ q.2 < h + 1 + j ∧ row.getD h 0 ∉ held ∧ row.getD q.2 0 = row.getD h 0
  | 0, q, hq => by simp [turnsIn] at hq
  | j + 1, q, hq => by
    rw [turnsIn_more, List.mem_append] at hq
    rcases hq with hq | hq
    · obtain ⟨a, b, c, d⟩ := turnsIn_mem hq
      exact ⟨a, b, by omega, d⟩
    · split at hq
      · rename_i c
        simp at hq
        subst hq
        exact ⟨rfl, by show h < h + 1 + j; omega, by show h + 1 + j < _; omega, c⟩
      · cases hq
theorem turnsM_mem {row held : List Nat} {q : Nat × Nat} (hq : q ∈ turnsM row held) : q.1 < q.2 ∧ q.2 < row.length ∧ row.getD q.1 0 ∉ held ∧ row.getD q.2 0 = row.getD q.1 0 := by
  unfold turnsM at hq
  rw [List.mem_flatMap] at hq
  obtain ⟨h, hh, hq⟩ := hq
  rw [List.mem_range] at hh
  obtain ⟨rfl, b, c, d, e⟩ := turnsIn_mem hq
  exact ⟨b, by omega, d, e⟩
theorem whyM_turns {row held : List Nat} {q : Nat × Nat} (hq : q ∈ turnsM row held) : whyM row held q.1 q.2 = [] := by
  obtain ⟨a, b, c, d⟩ := turnsM_mem hq
  unfold whyM
  rw [if_pos (by omega)]
  have e1 : ((q.1 : Int)).toNat = q.1 := by omega
  have e2 : ((q.2 : Int)).toNat = q.2 := by omega
  rw [e1, e2, if_neg (fun z => z d.symm), if_neg c]
theorem runM_snoc (row : List Nat) (ts : List (Nat × Nat)) (q : Nat × Nat) : runM row (ts ++ [q]) = turnM (runM row ts) q.1 q.2 := by
  unfold runM
  rw [List.foldl_append]; rfl
theorem goesM_snoc {held : List Nat} : ∀ {ts : List (Nat × Nat)} {row : List Nat} {q : Nat × Nat}, goesM held row ts → whyM (runM row ts) held q.1 q.2 = [] → goesM held row (ts ++ [q])
  | [], row, q, _, h => ⟨h, trivial⟩
  | _ :: ts, row, q, g, h => ⟨g.1, goesM_snoc (ts := ts) g.2 h⟩
/-- data of which _law_alike says that two are alike -/
def alk : Nat → PyData → Bool
  | 0, _ => false
  | n + 1, .none => true
  | n + 1, .bool _ => true
  | n + 1, .int _ => true
  | n + 1, .str _ => true
  | n + 1, .tuple ds => decide (ds.length ≤ 100000) && ds.all (alk n)
  | n + 1, .list ds => decide (ds.length ≤ 100000) && ds.all (alk n)
  | _ + 1, _ => false
theorem alk_mono : ∀ {n : Nat} {d : PyData}, alk n d = true → alk (n + 1) d = true := by
  intro n
  induction n with
  | zero => intro d h; cases h
  | succ n ih =>
    intro d h
    cases d <;> first | rfl | (exact absurd h (by decide)) | skip
    all_goals first
      | (simp only [alk, Bool.and_eq_true, List.all_eq_true] at h ⊢; exact ⟨h.1, fun x hx => ih (h.2 x hx)⟩)
      | (exfalso; simp [alk] at h; done)
theorem alk_get {n : Nat} {ds : List PyData} (h : (decide (ds.length ≤ 100000) && ds.all (alk n)) = true) : ds.length ≤ 100000 ∧ ∀ d ∈ ds, alk n d = true := by
  simpa only [Bool.and_eq_true, decide_eq_true_eq, List.all_eq_true] using h
theorem turnsM_none {row : List Nat} (h : ∀ c ∈ row, c ∈ abcS) : turnsM row abcS = [] := by
  unfold turnsM
  rw [List.flatMap_eq_nil_iff]
  intro i hi
  rw [List.mem_range] at hi
  unfold turnsAt turnsIn
  rw [if_pos]
  apply h
  rw [List.getD_eq_getElem?_getD, List.getElem?_eq_getElem hi]
  exact List.getElem_mem hi
theorem alk_pairs {n : Nat} (l : List (Nat × Nat)) (h : l.length ≤ 100000) : alk (n + 3) (.list (l.map dPair)) = true := by
  simp only [alk, Bool.and_eq_true, decide_eq_true_eq, List.length_map, List.all_eq_true]
  refine ⟨h, fun d hd => ?_⟩
  obtain ⟨q, _, rfl⟩ := List.mem_map.mp hd
  rfl
theorem turnM_get {row : List Nat} {h t i : Nat} (hh : h ≤ t) (ht : t < row.length) : (turnM row h t)[i]? = if h ≤ i ∧ i ≤ t then row[h + t - i]? else row[i]? := by
  unfold turnM
  have l1 : (row.take h).length = h := by simp; omega
  have l2 : ((row.drop h).take (t + 1 - h)).reverse.length = t + 1 - h := by simp; omega
  by_cases c1 : i < h
  · rw [if_neg (by omega), List.append_assoc, List.getElem?_append_left (by omega), List.getElem?_take_of_lt c1]
  · by_cases c2 : i ≤ t
    · rw [if_pos (by omega), List.append_assoc, List.getElem?_append_right (by omega), List.getElem?_append_left (by omega), l1, List.getElem?_reverse (by simp; omega)]
      rw [List.getElem?_take_of_lt (by simp; omega), List.getElem?_drop]
      congr 1
      simp
      omega
    · rw [if_neg (by omega), List.getElem?_append_right (by simp; omega), List.getElem?_drop]
      congr 1
      simp
      omega
theorem whyM_iff {row held : List Nat} {h t : Nat} : whyM row held h t = [] ↔ h < t ∧ t < row.length ∧ row.getD h 0 = row.getD t 0 ∧ row.getD h 0 ∉ held := by
  unfold whyM
  have e1 : ((h : Int)).toNat = h := by omega
  have e2 : ((t : Int)).toNat = t := by omega
  rw [e1, e2]
  constructor
  · intro z
    split at z
    · rename_i c
      split at z
      · cases z
      · rename_i c2
        split at z
        · cases z
        · rename_i c3
          exact ⟨by omega, by omega, Decidable.not_not.mp c2, c3⟩
    · cases z
  · rintro ⟨a, b, c, d⟩
    rw [if_pos (by omega), if_neg (fun q => q c), if_neg d]
theorem turnM_getD {row : List Nat} {h t i : Nat} (hh : h ≤ t) (ht : t < row.length) : (turnM row h t).getD i 0 = if h ≤ i ∧ i ≤ t then row.getD (h + t - i) 0 else row.getD i 0 := by
  rw [List.getD_eq_getElem?_getD, turnM_get hh ht]
  split <;> rw [List.getD_eq_getElem?_getD]
/-- a turn done once more -/
theorem turnM_twice {row : List Nat} {h t : Nat} (hh : h ≤ t) (ht : t < row.length) : turnM (turnM row h t) h t = row := by
  refine List.ext_getElem? fun i => ?_
  rw [turnM_get hh (by rw [turnM_len hh ht]; exact ht)]
  split
  · rw [turnM_get hh ht, if_pos (by omega)]
    congr 1; omega
  · rw [turnM_get hh ht, if_neg (by assumption)]
theorem whyM_twice {row held : List Nat} {h t : Nat} (w : whyM row held h t = []) : whyM (turnM row h t) held h t = [] := by
  obtain ⟨a, b, c, d⟩ := whyM_iff.mp w
  have hh : h ≤ t := by omega
  refine whyM_iff.mpr ⟨a, by rw [turnM_len hh b]; exact b, ?_, ?_⟩
  · rw [turnM_getD hh b, turnM_getD hh b, if_pos (by omega), if_pos (by omega)]
    have e1 : h + t - h = t := by omega
    have e2 : h + t - t = h := by omega
    rw [e1, e2]; exact c.symm
  · rw [turnM_getD hh b, if_pos (by omega)]
    have e1 : h + t - h = t := by omega
    rw [e1, ← c]; exact d
/-- read from the other end -/
theorem turnM_rev {row : List Nat} {h t : Nat} (hh : h ≤ t) (ht : t < row.length) : turnM row.reverse (row.length - 1 - t) (row.length - 1 - h) = (turnM row h t).reverse := by
  refine List.ext_getElem? fun i => ?_
  rw [turnM_get (by omega) (by simp; omega)]
  by_cases hi : i < row.length
  · rw [List.getElem?_reverse (l := turnM row h t) (by rw [turnM_len hh ht]; exact hi), turnM_len hh ht, turnM_get hh ht]
    by_cases c : h ≤ row.length - 1 - i ∧ row.length - 1 - i ≤ t
    · rw [if_pos c, if_pos (by omega), List.getElem?_reverse (l := row) (by omega)]
      congr 1; omega
    · rw [if_neg c, if_neg (by omega), List.getElem?_reverse (l := row) hi]
  · rw [List.getElem?_eq_none (l := (turnM row h t).reverse) (by rw [List.length_reverse, turnM_len hh ht]; omega), if_neg (by omega), List.getElem?_eq_none (by rw [List.length_reverse]; omega)]
theorem rev_getD {row : List Nat} {i : Nat} (hi : i < row.length) : row.reverse.getD i 0 = row.getD (row.length - 1 - i) 0 := by
  rw [List.getD_eq_getElem?_getD, List.getElem?_reverse hi, List.getD_eq_getElem?_getD]
theorem whyM_rev {row held : List Nat} {h t : Nat} (w : whyM row held h t = []) : whyM row.reverse held ((row.length - 1 - t : Nat) : Int) ((row.length - 1 - h : Nat) : Int) = [] := by
  obtain ⟨a, b, c, d⟩ := whyM_iff.mp w
  refine whyM_iff.mpr ⟨by omega, by rw [List.length_reverse]; omega, ?_, ?_⟩
  · rw [rev_getD (by omega), rev_getD (by omega)]
    have e1 : row.length - 1 - (row.length - 1 - t) = t := by omega
    have e2 : row.length - 1 - (row.length - 1 - h) = h := by omega
    rw [e1, e2]; exact c.symm
  · rw [rev_getD (by omega)]
    have e1 : row.length - 1 - (row.length - 1 - t) = t := by omega
    rw [e1, ← c]; exact d
theorem runM_app (row : List Nat) (ts us : List (Nat × Nat)) : runM row (ts ++ us) = runM (runM row ts) us := by
  unfold runM
  rw [List.foldl_append]
theorem goesM_app {held : List Nat} : ∀ {ts us : List (Nat × Nat)} {row : List Nat}, goesM held row ts → goesM held (runM row ts) us → goesM held row (ts ++ us)
  | [], us, row, _, h => h
  | _ :: ts, us, row, g, h => ⟨g.1, goesM_app (ts := ts) g.2 h⟩
theorem goesM_len {held : List Nat} : ∀ {ts : List (Nat × Nat)} {row : List Nat}, goesM held row ts → (runM row ts).length = row.length
  | [], row, _ => rfl
  | q :: ts, row, g => by
    obtain ⟨a, b, _⟩ := whyM_iff.mp g.1
    show (runM (turnM row q.1 q.2) ts).length = _
    rw [goesM_len g.2, turnM_len (by omega) b]
theorem goesM_take {held : List Nat} : ∀ {ts : List (Nat × Nat)} {row : List Nat}, goesM held row ts → ∀ i, goesM held row (ts.take i)
  | _, row, _, 0 => trivial
  | [], row, _, i + 1 => trivial
  | q :: ts, row, g, i + 1 => ⟨g.1, goesM_take g.2 i⟩
/-- a list of turns, done backwards -/
theorem back_ok {held : List Nat} : ∀ {ts : List (Nat × Nat)} {row : List Nat}, goesM held row ts → goesM held (runM row ts) ts.reverse ∧ runM (runM row ts) ts.reverse = row
  | [], row, _ => ⟨trivial, rfl⟩
  | q :: ts, row, g => by
    obtain ⟨a, b, _⟩ := whyM_iff.mp g.1
    obtain ⟨g1, g2⟩ := back_ok g.2
    rw [List.reverse_cons]
    have e : runM row (q :: ts) = runM (turnM row q.1 q.2) ts := rfl
    rw [e]
    refine ⟨goesM_app g1 ?_, ?_⟩
    · rw [g2]
      exact ⟨whyM_twice g.1, trivial⟩
    · rw [runM_app, g2]
      exact turnM_twice (by omega) b
def mirQ (n : Nat) (q : Nat × Nat) : Nat × Nat := (n - 1 - q.2, n - 1 - q.1)
theorem mir_ok {held : List Nat} {n : Nat} : ∀ {ts : List (Nat × Nat)} {row : List Nat}, row.length = n → goesM held row ts → goesM held row.reverse (ts.map (mirQ n)) ∧ runM row.reverse (ts.map (mirQ n)) = (runM row ts).reverse
  | [], row, _, _ => ⟨trivial, rfl⟩
  | q :: ts, row, hn, g => by
    obtain ⟨a, b, _⟩ := whyM_iff.mp g.1
    subst hn
    obtain ⟨g1, g2⟩ := mir_ok (n := row.length) (turnM_len (by omega) b) g.2
    have e := turnM_rev (row := row) (h := q.1) (t := q.2) (by omega) b
    refine ⟨⟨whyM_rev g.1, ?_⟩, ?_⟩
    · show goesM held (turnM row.reverse (row.length - 1 - q.2) (row.length - 1 - q.1)) _
      rw [e]; exact g1
    · show runM (turnM row.reverse (row.length - 1 - q.2) (row.length - 1 - q.1)) _ = _
      rw [e]; exact g2
/-- for a, b in a list of places -/
theorem lcX_pairs {K : PySem.W.Frag} {σ : L2.St} {H : Hp} {Q : VK} {tt : TT} {te : TE} {vs : List Nat} {a b : Nat} {p : Addr} {acc : List V} {ts : List (Nat × Nat)} (hp : H p = some (.lst acc)) (hr : RpAll H acc (ts.map dPair)) (hz : ts.length ≤ 100000) (ds : Nat → List PyData) (h0 : ds 0 = [])
    (hw : ∀ v v', wipe (((wipe σ vs).set a (some v)).set b (some v')) vs = wipe σ vs)
    (hs : ∀ i q H1, ts[i]? = some q → Ex H H1 → LcStep H1 (ds i) (fun d => d = ds (i + 1)) tt te (((wipe σ vs).set a (some (.int q.1))).set b (some (.int q.2))) H1)
    (hd : ∀ p H2 acc, H p = none → Ex H H2 → H2 p = some (.lst acc) → RpAll H2 acc (ds ts.length) → acc.length ≤ ts.length → Q (.ref p) H2) : LcX (Itl K p) (g2 K a b) (tCutT tt) (tCutE te) vs σ H Q := by
  have hl : acc.length = ts.length := by rw [hr.length, List.length_map]
  refine lcX_coreG walk_list (by omega) (fun i d => d = ds i) h0.symm (fun H' e => SqL.of (e _ _ hp)) (fun i v H1 H2 d0 hi e g ⟨e2, hv⟩ => ?_) (fun p H2 acc2 ds' hp e h r g hl2 => by subst g; rw [hl] at r hl2; exact hd p H2 acc2 hp e h r hl2)
  subst e2 g
  obtain ⟨d, d1, d2⟩ := hr.get' hv
  rw [List.getElem?_map] at d1
  cases hq : ts[i]? with
  | none => rw [hq] at d1; cases d1
  | some q =>
    rw [hq] at d1
    cases d1
    obtain ⟨T, rfl, hT⟩ := rp_pair_inv (d2.ex e)
    exact ⟨_, hw _ _, fun k z => g2_ok hT z, hs i q _ hq e⟩
theorem rpall_rev {H : Hp} : ∀ {xs : List V} {ds : List PyData}, RpAll H xs ds → RpAll H xs.reverse ds.reverse
  | [], [], _ => .nil
  | x :: xs, d :: ds, h => by
    cases h with
    | cons h1 h2 =>
      rw [List.reverse_cons, List.reverse_cons]
      exact (rpall_rev h2).append (.one h1)
theorem pe_revLK {X : Cx} {K : PySem.W.Frag} {e : Expr} {te : TE} {k : Nat} {p1 p2 p3 pos : Pos} (hK : X.K = K) (he : PE X e te) : PE X (.Subscript e (.Slice none none (some (.UnaryOp .USub (.Constant (.int 1) k p1) p2)) p3) pos) (tRevL K te) := hK ▸ pe_revL he
end Lt

namespace Lt
open PySem PySem.Spec PyProof.Rows L2 Evl
open SX (S)
/-! the walk's words -/
local macro_rules | `(tactic| walk_at "sz") => `(tactic| first | omega | assumption | (simp only [sizeLine_eq, List.length_append, List.length_map, List.length_cons, List.length_nil, List.length_reverse, List.length_set, List.length_eraseIdx, List.length_take, List.length_drop]; omega) | (rw [sizeLine_eq]; simp; omega) | (simp; omega) | (simp; done))
local macro_rules | `(tactic| walk_at "lift") => `(tactic| first | assumption | exact upd_same | (refine (show Ex _ _ by assumption) _ _ ?_; walk_at "lift") | (refine (show ExB _ _ _ by assumption) _ _ (by first | assumption | (apply Ne.symm; assumption)) ?_; walk_at "lift"))
local macro_rules | `(tactic| walk_at "ixd") => `(tactic| (intro v hv; first | (simp at hv; subst hv) | (simp at hv; obtain ⟨_, _, rfl⟩ := hv) | skip))
local macro_rules | `(tactic| walk_at "s1") => `(tactic| first | ((with_reducible refine w_var (v := ?vv) ?hx ?hk); (case hx => exact rfl)) | ((with_reducible refine w_aug (x := ?vv) ?hx ?hk); (case hx => exact rfl)) | with_reducible first
  | refine w_nx ?_ | refine w_rt ?_ | refine w_bk ?_ | refine w_ct ?_
  | refine w_seq ?_ | refine w_next ?_ | refine w_asg ?_ | refine w_name ?_ | refine w_ret ?_ | refine w_retN ?_ | refine w_drop ?_ | refine w_ifS ?_ | refine w_break ?_ | refine w_cont ?_
  | refine w_c ?_ | refine w_op ?_ | refine w_un ?_ | refine w_neg ?_ | refine w_cb ?_ | refine w_callN ?_ | refine w_call ?_ | refine w_callK ?_ | refine w_kb1 ?_ | refine w_kb2 ?_ | refine w_kb3 ?_ | refine w_kd1 ?_ | refine w_itT ?_ | refine w_itF ?_ | refine w_itNT ?_ | refine w_itNF ?_ | refine w_kd2 ?_ | refine w_kd3 ?_ | refine w_cons ?_ | refine w_nil ?_ | refine w_if ?_ | refine w_sl ?_
  | refine w_part ?_ | refine w_intk ?_ | refine w_noPart ?_ | refine w_tup ?_ | refine w_lst ?_ | refine w_test ?_ | refine w_tB ?_ | refine w_blk ?_ | refine w_and ?_ | refine w_or ?_ | refine w_not ?_ | refine w_andV ?_ | refine w_orV ?_ | refine w_notV ?_ | refine w_chain ?_
  | refine w_par2 ?_ | refine w_par3 ?_ | refine w_two ?_ | refine w_three ?_ | refine w_gcons ?_ | refine w_gnil ?_ | refine w_gsub ?_ | refine w_bm ?_ | refine w_bm0 ?_
  | refine w_addI ?_ | refine w_I0 ?_ | refine w_ltI ?_ | refine w_gtI ?_ | refine w_leI ?_ | refine w_geI ?_ | refine w_eqI ?_ | refine w_neI ?_ | refine w_eqC ?_ | refine w_neC ?_ | refine w_ltC ?_ | refine w_gtC ?_ | refine w_leC ?_ | refine w_geC ?_ | refine w_eqT ?_ | refine w_neT ?_ | refine w_ltT ?_ | refine w_gtT ?_ | refine w_leT ?_ | refine w_geT ?_ | refine w_inS ?_ | refine w_notInS ?_)
local macro_rules | `(tactic| walk_at "cI") => `(tactic| first | omega | (exact ⟨by omega, by omega⟩) | (exact Or.inl ⟨by omega, by omega⟩) | (exact Or.inr ⟨by omega, by omega⟩) | (exact ⟨by omega, by omega, by omega⟩) | decide)
local macro_rules | `(tactic| walk_at "s2") => `(tactic| first
  | ((with_reducible refine w_lenX ?hl ?hk); (case hl => walk_at "sz"))
  | ((with_reducible refine w_lenL (xs := ?xs) ?hp ?hk); (case hp => walk_at "lift"))
  | ((with_reducible refine w_lenU (xs := ?xs) ?hp ?hk); (case hp => walk_at "lift"))
  | ((with_reducible refine w_ixX ?hl ?h0 ?h1 ?hk); (case hl => walk_at "sz"); (case h0 => walk_at "sz"); (case h1 => walk_at "sz"); walk_at "ixd")
  | ((with_reducible refine w_ixL (xs := ?xs) ?hp ?h0 ?h1 ?hk); (case hp => walk_at "lift"); (case h0 => walk_at "sz"); (case h1 => walk_at "sz"); walk_at "ixd")
  | ((with_reducible refine w_ixU (xs := ?xs) ?hp ?h0 ?h1 ?hk); (case hp => walk_at "lift"); (case h0 => walk_at "sz"); (case h1 => walk_at "sz"); walk_at "ixd")
  | ((with_reducible refine w_slX ?hl ?hk); (case hl => walk_at "sz"))
  | ((with_reducible refine w_revX ?hl))
  | ((with_reducible refine w_revX2 ?hl ?hk); (case hl => walk_at "sz"))
  | ((with_reducible refine w_slL (xs := ?xs) ?hp ?hk); (case hp => walk_at "lift"))
  | ((with_reducible refine w_slU (xs := ?xs) ?hp ?hk); (case hp => walk_at "lift"))
  | ((with_reducible refine w_addT ?hl ?hk); (case hl => walk_at "sz"))
  | ((with_reducible refine w_addL (xs := ?xs) (ys := ?ys) ?hp ?hq ?hl ?hk); (case hp => walk_at "lift"); (case hq => walk_at "lift"); (case hl => walk_at "sz"))
  | ((with_reducible refine w_addU (xs := ?xs) (ys := ?ys) ?hp ?hq ?hl ?hk); (case hp => walk_at "lift"); (case hq => walk_at "lift"); (case hl => walk_at "sz"))
  | ((with_reducible refine w_listX ?hl ?hk); (case hl => walk_at "sz"))
  | ((with_reducible refine w_listL (xs := ?xs) ?hp ?hk); (case hp => walk_at "lift"))
  | ((with_reducible refine w_listU (xs := ?xs) ?hp ?hk); (case hp => walk_at "lift"))
  | ((with_reducible refine w_gtup (xs := ?xs) ?hp ?hn ?hk); (case hp => walk_at "lift"); (case hn => rfl))
  | (with_reducible refine w_revL ?_) | ((with_reducible refine w_revLk (xs := ?xs) ?hp ?hk); (case hp => walk_at "lift"); intro p hp; generalize hG : upd _ p _ = H2; have e : Ex _ H2 := (by rw [← hG]; exact Ex.new hp); have h2 : H2 p = some _ := (by rw [← hG]; exact upd_same); clear hG)
  | (with_reducible refine w_for ?_) | (with_reducible refine w_iany ?_) | (with_reducible refine w_lc ?_) | (with_reducible refine w_anyX ?_)
  | ((with_reducible refine w_anyU (xs := ?xs) ?hp ?hk); (case hp => walk_at "lift"))
  | ((with_reducible refine w_anyL (xs := ?xs) ?hp ?hk); (case hp => walk_at "lift"))
  | (with_reducible refine w_rng1 ?_) | ((with_reducible refine w_rng1k ?hp ?hk); (case hp => constructor <;> walk_at "sz"))
  | (with_reducible refine w_rng2 ?_) | ((with_reducible refine w_rng2k ?hp ?hk); (case hp => refine ⟨?_, ?_, ?_, ?_⟩ <;> walk_at "sz"))
  | (with_reducible refine w_enumX ?_) | (with_reducible refine w_enumXk ?_) | (with_reducible refine w_zipX ?_) | (with_reducible refine w_zipXk ?_)
  | (with_reducible refine w_enumL ?_) | ((with_reducible refine w_enumLk (xs := ?xs) ?hp ?hk); (case hp => walk_at "lift"))
  | (with_reducible refine w_zipL ?_) | ((with_reducible refine w_zipLk (xs := ?xs) (ys := ?ys) ?hp ?hq ?hk); (case hp => walk_at "lift"); (case hq => walk_at "lift"))
  | (with_reducible refine w_tyS ?_)
  | ((with_reducible refine w_join1 (l := ?l) ?hp ?hl ?hk); (case hp => walk_at "lift"); (case hl => walk_at "sz"))
  | (with_reducible refine w_isN ?_) | ((with_reducible refine w_isNx ?hx ?hk); (case hx => first | assumption | (intro q; cases q; done))) | (with_reducible refine w_notN ?_) | ((with_reducible refine w_notNx ?hx ?hk); (case hx => first | assumption | (intro q; cases q; done)))
  | (with_reducible refine w_neB1 ?_) | (with_reducible refine w_neB2 ?_) | (with_reducible refine w_neB3 ?_) | (with_reducible refine w_neB4 ?_) | (with_reducible refine w_eqB ?_) | (with_reducible refine w_eqStr ?_)
  | (with_reducible refine w_yes ?_) | (with_reducible refine w_int1 ?_)
  | ((with_reducible refine w_I ?hc ?hk); (case hc => walk_at "cI"))
  | ((with_reducible refine w_isLT (xs := ?xs) ?hp ?hn ?hb ?hk); (case hp => walk_at "lift"); (case hn => decide); (case hb => decide))
  | ((with_reducible refine w_isLF (xs := ?xs) ?hp ?hn ?hb ?hk); (case hp => walk_at "lift"); (case hn => decide); (case hb => decide))
  | ((with_reducible refine w_isUT (xs := ?xs) ?hp ?hn ?hb ?hk); (case hp => walk_at "lift"); (case hn => decide); (case hb => decide))
  | ((with_reducible refine w_isUF (xs := ?xs) ?hp ?hn ?hb ?hk); (case hp => walk_at "lift"); (case hn => decide); (case hb => decide))
  | ((with_reducible refine w_isT (t := ?t) ?ht ?hn ?hb ?hk); (case ht => first | exact Tg.non | exact Tg.bl _ | exact Tg.int _ | exact Tg.str _); (case hn => decide); (case hb => decide))
  | ((with_reducible refine w_isF (t := ?t) ?ht ?hn ?hb ?hk); (case ht => first | exact Tg.non | exact Tg.bl _ | exact Tg.int _ | exact Tg.str _); (case hn => decide); (case hb => decide))
  | ((with_reducible refine w_new ?hn ?hk); (case hn => walk_at "sz"); intro p H2 hp e h2)
  | ((with_reducible refine w_newN ?hk); intro p H2 hp e h2))
local macro_rules | `(tactic| walk_at "s3") => `(tactic| first
  | ((with_reducible refine w_tyL (xs := ?xs) ?hp ?hk); (case hp => walk_at "lift"))
  | ((with_reducible refine w_app (xs := ?xs) ?hp ?hl ?hk); (case hp => walk_at "lift"); (case hl => walk_at "sz"); intro H2 e h2)
  | ((with_reducible refine w_ext (xs := ?xs) (zs := ?zs) ?hp ?hq ?hl ?hk); (case hp => walk_at "lift"); (case hq => walk_at "lift"); (case hl => walk_at "sz"); intro H2 e h2)
  | ((with_reducible refine w_popAt (xs := ?xs) ?hp ?hk ?hs ?hh); (case hp => walk_at "lift"); (case hk => walk_at "sz"); (case hs => walk_at "sz"); intro H2 v hv e h2)
  | ((with_reducible refine w_setL (xs := ?xs) ?hp ?hk ?hs ?hh); (case hp => walk_at "lift"); (case hk => walk_at "sz"); (case hs => walk_at "sz"); intro H2 e h2))
local macro_rules | `(tactic| walk_at "st") => `(tactic| first | walk_at "s1" | walk_at "s2" | walk_at "s3")
local macro_rules | `(tactic| walk_at "gx") => `(tactic| repeat first | walk_at "s1" | walk_at "s2")
local macro_rules | `(tactic| walk_at "go") => `(tactic| repeat walk_at "st")
local macro_rules | `(tactic| walk_at "br") => `(tactic| first | (with_reducible refine w_iteD (fun hc => ?_) (fun hc => ?_)) | (with_reducible refine w_iteN (fun hc => ?_) (fun hc => ?_)) | (with_reducible refine w_iteB (fun hc => ?_) (fun hc => ?_)))
local macro_rules | `(tactic| walk_at "tt") => `(tactic| ((with_reducible refine w_iteT ?hc ?hk); (case hc => first | rfl | assumption | (simp; done) | (simp; omega) | (simp_all; done))))
local macro_rules | `(tactic| walk_at "ff") => `(tactic| ((with_reducible refine w_iteF ?hc ?hk); (case hc => first | rfl | assumption | (simp; done) | (simp; omega) | (simp_all; done))))

def top (i : Nat) : Stmt := PySem.Challenge.pw_liketurns_k08_whole_turned_back.main.body.getD i (.Pass ⟨0, 0, 0, 0⟩)
abbrev s__law_dice : Stmt := top 19
abbrev s__law_off : Stmt := top 20
abbrev s__law_row : Stmt := top 22
abbrev s__law_mixed : Stmt := top 21
abbrev s__law_signs : Stmt := top 23
abbrev s__law_pins : Stmt := top 24
abbrev s_need_row : Stmt := top 9
abbrev s_need_pins : Stmt := top 10
abbrev s_turns_of : Stmt := top 15
abbrev s_turns : Stmt := top 16
abbrev s_is_number : Stmt := top 8
abbrev s_why_not : Stmt := top 12
abbrev s_behind : Stmt := top 13
abbrev s_turned : Stmt := top 14
abbrev s_done : Stmt := top 17
abbrev s_law : Stmt := top 25

structure Txt (K : PySem.W.Frag) (mg : Str → Option Value) : Prop where
  z_abs : mg "abs" = none
  z_all : mg "all" = none
  z_any : mg "any" = none
  z_bool : mg "bool" = none
  z_enumerate : mg "enumerate" = none
  z_int : mg "int" = none
  z_isinstance : mg "isinstance" = none
  z_len : mg "len" = none
  z_list : mg "list" = none
  z_range : mg "range" = none
  z_str : mg "str" = none
  z_tuple : mg "tuple" = none
  z_zip : mg "zip" = none
  c_MOST_SIGNS : ∃ u, mg "MOST_SIGNS" = some u ∧ RelV (.int 40) u
  c_SIGNS : ∃ u, mg "SIGNS" = some u ∧ RelV (Tx [97, 98, 99, 100, 101, 102, 103, 104]) u
  f__law_dice : ∃ (f : Addr) (fd : FuncData), mg "_law_dice" = some (.ref f) ∧ FunD K "_law_dice" "_law_dice" (defArgs s__law_dice) (defBody s__law_dice) (defScope s__law_dice) [] [] f fd
  f__law_off : ∃ (f : Addr) (fd : FuncData), mg "_law_off" = some (.ref f) ∧ FunD K "_law_off" "_law_off" (defArgs s__law_off) (defBody s__law_off) (defScope s__law_off) [] [] f fd
  f__law_row : ∃ (f : Addr) (fd : FuncData), mg "_law_row" = some (.ref f) ∧ FunD K "_law_row" "_law_row" (defArgs s__law_row) (defBody s__law_row) (defScope s__law_row) [] [] f fd
  f__law_mixed : ∃ (f : Addr) (fd : FuncData), mg "_law_mixed" = some (.ref f) ∧ FunD K "_law_mixed" "_law_mixed" (defArgs s__law_mixed) (defBody s__law_mixed) (defScope s__law_mixed) [] [] f fd
  f__law_signs : ∃ (f : Addr) (fd : FuncData), mg "_law_signs" = some (.ref f) ∧ FunD K "_law_signs" "_law_signs" (defArgs s__law_signs) (defBody s__law_signs) (defScope s__law_signs) [] [] f fd
  f__law_pins : ∃ (f : Addr) (fd : FuncData), mg "_law_pins" = some (.ref f) ∧ FunD K "_law_pins" "_law_pins" (defArgs s__law_pins) (defBody s__law_pins) (defScope s__law_pins) [] [] f fd
  f_need_row : ∃ (f : Addr) (fd : FuncData), mg "need_row" = some (.ref f) ∧ FunD K "need_row" "need_row" (defArgs s_need_row) (defBody s_need_row) (defScope s_need_row) [] [] f fd
  f_need_pins : ∃ (f : Addr) (fd : FuncData), mg "need_pins" = some (.ref f) ∧ FunD K "need_pins" "need_pins" (defArgs s_need_pins) (defBody s_need_pins) (defScope s_need_pins) [] [] f fd
  f_turns_of : ∃ (f : Addr) (fd : FuncData), mg "turns_of" = some (.ref f) ∧ FunD K "turns_of" "turns_of" (defArgs s_turns_of) (defBody s_turns_of) (defScope s_turns_of) [] [] f fd
  f_turns : ∃ (f : Addr) (fd : FuncData), mg "turns" = some (.ref f) ∧ FunD K "turns" "turns" (defArgs s_turns) (defBody s_turns) (defScope s_turns) [] [("pins", .str (S []))] f fd
  f_is_number : ∃ (f : Addr) (fd : FuncData), mg "is_number" = some (.ref f) ∧ FunD K "is_number" "is_number" (defArgs s_is_number) (defBody s_is_number) (defScope s_is_number) [] [] f fd
  f_why_not : ∃ (f : Addr) (fd : FuncData), mg "why_not" = some (.ref f) ∧ FunD K "why_not" "why_not" (defArgs s_why_not) (defBody s_why_not) (defScope s_why_not) [] [] f fd
  f_behind : ∃ (f : Addr) (fd : FuncData), mg "behind" = some (.ref f) ∧ FunD K "behind" "behind" (defArgs s_behind) (defBody s_behind) (defScope s_behind) [] [] f fd
  f_turned : ∃ (f : Addr) (fd : FuncData), mg "turned" = some (.ref f) ∧ FunD K "turned" "turned" (defArgs s_turned) (defBody s_turned) (defScope s_turned) [] [("pins", .str (S []))] f fd
  f_done : ∃ (f : Addr) (fd : FuncData), mg "done" = some (.ref f) ∧ FunD K "done" "done" (defArgs s_done) (defBody s_done) (defScope s_done) [] [("pins", .str (S []))] f fd

abbrev N__law_dice : List Str := ["_law_script", "_law_k", "_law_found", "_law_cell"]
theorem sc__law_dice : FnScope N__law_dice ["_law_script", "_law_k"] (defScope s__law_dice) := ⟨rfl, rfl, rfl, by decide +kernel, rfl, by decide +kernel, by decide +kernel⟩
def sp__law_dice (K : PySem.W.Frag) : Sp := fun vs H Q _ => ∃ (a : Addr) (ns : List Int) (k : Int), vs = [.ref a, .int k] ∧ SqL K H a (ns.map V.int) ∧ ns.length ≤ 63 ∧ 0 ≤ k ∧ k < 2147483647 ∧
  ∀ p H', H p = none → Ex H H' → H' p = some (DiceO p) → Q (.ref p) H'

theorem ok__law_dice {P : Program} {w : World} {K : PySem.W.Frag} {mg : Str → Option Value} {base : Heap} (T : Txt K mg) : Has P w K mg base CX0 1 "_law_dice" ["_law_script", "_law_k"] (sp__law_dice K) := by
  obtain ⟨f, fd, g, F⟩ := T.f__law_dice
  refine ⟨f, fd, g, F.kp, F.bindsN (fun _ _ _ _ _ _ us hl => match us, hl with | [_, _], _ => rfl), F.ok sc__law_dice (fun vs H Q E h => ?_) (fun cdv A outer s H vs Q E hr h => ?_)⟩
  · repeat (first | (obtain ⟨e, _⟩ := h; exact congrArg List.length e) | (obtain ⟨_, h⟩ := h))
  have hu64 : (A.deeper (envOfC "_law_dice" (defScope s__law_dice) s.heap.objs.size f cdv)).units + 64 < cLine := hr.units
  refine ⟨_, PSs.nox (pss_close (pss_cons (ps_set (i := 2) sc__law_dice.nd rfl (Or.inl rfl) (pv 1))
      (pss_cons (ps_for PassesOwn.never rfl (pi_anyK (K := K) rfl (pv 0)) (pg_name (i := 3) sc__law_dice.nd rfl (Or.inl rfl)) (pss_one (ps_set (i := 2) sc__law_dice.nd rfl (Or.inl rfl) (pe_op op_modN (pe_op op_addU (pe_op op_mul (pv 2) pe_int) (pe_callB call_abs (by rfl) T.z_abs (by decide +kernel) (pa_cons (pv 3) pa_nil))) pe_int))))
      (pss_one (ps_ret (pe_op op_addU (pe_lstX (pa_cons (pv 2) (pa_cons pe_int pa_nil))) (pe_lc (own := [("_law_cell", 3)]) rfl sc__law_dice.nd (pi_anyK (K := K) rfl (pv 0)) (blkOk_by (own := [("_law_cell", 3)]) (N := N__law_dice) (sc := defScope s__law_dice) (by decide +kernel)) (fun _ _ _ _ _ => (pg_name (i := 3) sc__law_dice.nd rfl (Or.inl rfl))) (fun _ _ _ _ _ => (pts_cut (pts_one (pt_cmpR op_geU (pv 3) (pe_op op_pow pe_int pe_int) (nomark _))))) (fun _ _ _ _ _ => (pe_cut (pv 3)))))))))), ?_⟩
  obtain ⟨a, ns, k, rfl, ha, hn, k0, k1, kk⟩ := h
  unfold tClose
  (generalize hst : L2.start _ _ = st0; simp only [L2.start, N__law_dice, List.map_cons, List.map_nil, List.length_cons, List.length_nil, Nat.reduceAdd, Nat.reduceSub, List.replicate_succ, List.replicate_zero, List.cons_append, List.nil_append, List.append_nil] at hst; subst hst)
  walk_at "go"
  refine w_anyK ha ?_
  refine forX_list (xs := ns.map V.int) (fun i σ H' => ∃ (y : Int) (c : Option V), σ = [some (.ref a), some (.int k), some (.int y), c] ∧ H' = H ∧ 0 ≤ y ∧ y < 2147483647) ⟨k, none, rfl, rfl, k0, k1⟩ (fun i σ H' _ ⟨_, _, _, e, _⟩ => e ▸ ha) ?_ ?_
  · rintro i x σ H' hx ⟨y, c, rfl, rfl, y0, y1⟩
    simp at hx
    obtain ⟨z, hz, rfl⟩ := hx
    walk_at "go"
    refine ⟨_, _, rfl, rfl, ?_, ?_⟩
    · rw [Int.fmod_eq_emod_of_nonneg _ (by omega)]
      exact Int.emod_nonneg _ (by omega)
    · rw [Int.fmod_eq_emod_of_nonneg _ (by omega)]
      exact Int.emod_lt_of_pos _ (by omega)
  · rintro σ H' ⟨y, c, rfl, rfl, y0, y1⟩
    walk_at "go"
    rename_i p H2 hp e h2
    refine w_anyK (ex_l e ha) ?_
    refine lcX_1 walk_list (by simp; omega) (fun i => ((ns.take i).filter (fun z => decide (1000000000000000000 ≤ z))).map PyData.int) rfl (fun H'' e' => ex_l (e.trans e') ha) (fun v => rfl) ?_ ?_
    · rintro i x H1 H3 hi e' ⟨rfl, hx⟩
      simp at hx
      obtain ⟨z, hz, rfl⟩ := hx
      unfold LcStep
      walk_at "go"
      walk_at "br"
      · rename_i hc
        have hc' : (1000000000000000000 : Int) ≤ z := by simpa using hc
        walk_at "go"
        refine ⟨Ex.refl _, .int z, rfl, .int z, ?_⟩
        show _ = _
        rw [take_more hz]
        simp [hc']
      · rename_i hc
        refine ⟨Ex.refl _, ?_⟩
        have hc' : ¬ (1000000000000000000 : Int) ≤ z := by simpa using hc
        show _ = _
        rw [take_more hz]
        simp [hc']
    · intro q H3 acc hq e3 h3 r hl
      have hacc := rpall_ints r
      subst hacc
      simp only [List.length_map, List.take_length] at hl h3
      walk_at "go"
      rename_i p4 H4 hp4 e4 h4
      have f0 : H' p4 = none := by
        cases h : H' p4 with
        | none => rfl
        | some o => exact absurd hp4 (by rw [e3 _ _ (e _ _ h)]; simp)
      refine ⟨p4, y :: 0 :: ns.filter (fun z => decide (1000000000000000000 ≤ z)), by simpa using h4, ⟨by simp, by simp; omega, ?_, ?_⟩, ?_⟩
      · intro z hz
        simp at hz
        omega
      · intro z hz
        simp at hz
        omega
      · refine kk p4 _ f0 (Ex.mut (e.trans (e3.trans e4)) f0) upd_same
theorem use__law_dice {K : PySem.W.Frag} {a : Addr} {ns : List Int} {n : Int} {H : Hp} {Q : VK} {E : XK} (ha : SqL K H a (ns.map V.int)) (hn : ns.length ≤ 63) (h0 : 0 ≤ n ∧ n < 2147483647) (k : ∀ p H', H p = none → Ex H H' → H' p = some (DiceO p) → Q (.ref p) H') : sp__law_dice K [.ref a, .int n] H Q E := ⟨a, ns, n, rfl, ha, hn, h0.1, h0.2, k⟩
local macro_rules | `(tactic| walk_at "st") => `(tactic| ((with_reducible refine use__law_dice (ns := ?ns) ?ha ?hn ?h0 ?hk); (case ha => assumption); (case hn => assumption); (case h0 => constructor <;> walk_at "sz"); intro p H2 hp e h2))

abbrev N__law_off : List Str := ["_law_d", "_law_upto", "_law_found"]
theorem sc__law_off : FnScope N__law_off ["_law_d", "_law_upto"] (defScope s__law_off) := ⟨rfl, rfl, rfl, by decide +kernel, rfl, by decide +kernel, by decide +kernel⟩
def sp__law_off (K : PySem.W.Frag) : Sp := fun vs H Q _ => ∃ (a : Addr) (n : Int), vs = [.ref a, .int n] ∧ H a = some (DiceO a) ∧ 0 < n ∧ n < 1073741824 ∧ ∀ r : Nat, (r : Int) < n → Q (.int r) H

theorem ok__law_off {P : Program} {w : World} {K : PySem.W.Frag} {mg : Str → Option Value} {base : Heap} (T : Txt K mg) : Has P w K mg base CX0 1 "_law_off" ["_law_d", "_law_upto"] (sp__law_off K) := by
  obtain ⟨f, fd, g, F⟩ := T.f__law_off
  refine ⟨f, fd, g, F.kp, F.bindsN (fun _ _ _ _ _ _ us hl => match us, hl with | [_, _], _ => rfl), F.ok sc__law_off (fun vs H Q E h => ?_) (fun cdv A outer s H vs Q E hr h => ?_)⟩
  · repeat (first | (obtain ⟨e, _⟩ := h; exact congrArg List.length e) | (obtain ⟨_, h⟩ := h))
  have hu64 : (A.deeper (envOfC "_law_off" (defScope s__law_off) s.heap.objs.size f cdv)).units + 64 < cLine := hr.units
  refine ⟨_, PSs.nox (pss_open (pss_close (pss_cons (ps_cut (ps_if (pt_cut (PW.pt (pw_and (pt_cmpR (op_eqK (K := K) rfl hu64) (pe_ix (ix_K (K := K) rfl) (pv 0) pe_int (fun _ _ => rfl)) pe_int (nomark _)) (pw_and1 (pt_cmpR op_gtU (pe_callB (call_lenK (K := K) rfl) (by rfl) T.z_len PySem.boot_len (pa_cons (pv 0) pa_nil)) pe_int (nomark _)))))) (pss_one (ps_asg (pe_bmK (K := K) rfl PySem.F.plainAttrs_list PySem.F.slot_list_pop PySem.F.type_list_pop mt_popAt (pv 0) (pa_cons pe_int pa_nil)) (pg_sub (pv 0) pe_int set_list))) pss_nil))
      (pss_cons (ps_if (pt_cmpR op_gtU (pe_ix (ix_K (K := K) rfl) (pv 0) pe_int (fun _ _ => rfl)) pe_int (nomark _)) (pss_cons (ps_set (i := 2) sc__law_off.nd rfl (Or.inl rfl) (pe_op op_modN (pe_ix (ix_K (K := K) rfl) (pv 0) pe_int (fun _ _ => rfl)) (pv 1)))
      (pss_cons (ps_asg (pe_op op_fdivN (pe_ix (ix_K (K := K) rfl) (pv 0) pe_int (fun _ _ => rfl)) (pv 1)) (pg_sub (pv 0) pe_int set_list))
      (pss_one (ps_ret (pv 2))))) pss_nil)
      (pss_cons (ps_asg (pe_op op_modN (pe_op op_addU (pe_op op_mul (pe_ix (ix_K (K := K) rfl) (pv 0) pe_int (fun _ _ => rfl)) pe_int) pe_int) pe_int) (pg_sub (pv 0) pe_int set_list))
      (pss_one (ps_ret (pe_op op_modN (pe_op op_fdivN (pe_ix (ix_K (K := K) rfl) (pv 0) pe_int (fun _ _ => rfl)) pe_int) (pv 1))))))))), ?_⟩
  obtain ⟨a, n, rfl, ha, h0, h1, k⟩ := h
  refine ⟨a, ha, fun xs ok => ?_⟩
  unfold tClose
  (generalize hst : L2.start _ _ = st0; simp only [L2.start, N__law_off, List.map_cons, List.map_nil, List.length_cons, List.length_nil, Nat.reduceAdd, Nat.reduceSub, List.replicate_succ, List.replicate_zero, List.cons_append, List.nil_append, List.append_nil] at hst; subst hst)
  obtain ⟨x0, x1, rest, rfl⟩ : ∃ x0 x1 rest, xs = x0 :: x1 :: rest := by
    have h2 := ok.two
    match xs, h2 with
    | x0 :: x1 :: rest, _ => exact ⟨x0, x1, rest, rfl⟩
  have p0 : 0 ≤ x0 := ok.pos _ (by simp)
  have p1 : 0 ≤ x1 := ok.pos _ (by simp)
  have s0 : x0 < 2147483647 := ok.seed _ rfl
  have pr : ∀ y ∈ rest, 0 ≤ y := fun y hy => ok.pos _ (by simp [hy])
  have ml : rest.length ≤ 998 := by have := ok.most; simp at this; omega
  have fin : ∀ (y0 y1 : Int) (ys : List Int) (r : Int), 0 ≤ r → r < n → 0 ≤ y0 → y0 < 2147483647 → 0 ≤ y1 → (∀ y ∈ ys, 0 ≤ y) → ys.length ≤ 998 →
      closeK Q (.int r) (upd H a (.lst ((y0 :: y1 :: ys).map V.int))) := fun y0 y1 ys r hr0 hr hy0 hy0' hy1 hys hl => by
    refine ⟨a, _, upd_same, ⟨by simp, by simp; omega, ?_, ?_⟩, ?_⟩
    · intro z hz
      rcases List.mem_cons.mp hz with rfl | hz
      · exact hy0
      · rcases List.mem_cons.mp hz with rfl | hz
        · exact hy1
        · exact hys z hz
    · intro z hz; simp at hz; omega
    · have e : upd (upd H a (.lst ((y0 :: y1 :: ys).map V.int))) a (DiceO a) = H := by
        rw [upd_upd]
        funext b
        unfold upd
        split
        · rename_i e; rw [e, ha]
        · rfl
      rw [e]
      have er : r = (r.toNat : Int) := by omega
      rw [er]
      exact k _ (by omega)
  have mod0 : ∀ y : Int, 0 ≤ y → 0 ≤ y.fmod n ∧ y.fmod n < n := fun y hy => by
    rw [Int.fmod_eq_emod_of_nonneg _ (by omega)]
    exact ⟨Int.emod_nonneg _ (by omega), Int.emod_lt_of_pos _ h0⟩
  have div0 : ∀ y : Int, 0 ≤ y → 0 ≤ y.fdiv n := fun y hy => by
    rw [Int.fdiv_eq_ediv_of_nonneg _ (by omega)]
    exact Int.ediv_nonneg hy (by omega)
  have cd : ∀ y, CDivN y n := fun y => ⟨by omega, by omega⟩
  have c64 : ∀ y : Int, CDivN y 64 := fun y => ⟨by omega, by decide⟩
  have seed : ∀ y : Int, 0 ≤ y → 0 ≤ (y * 48271 + 11).fmod 2147483647 ∧ (y * 48271 + 11).fmod 2147483647 < 2147483647 := fun y hy => by
    rw [Int.fmod_eq_emod_of_nonneg _ (by omega)]
    exact ⟨Int.emod_nonneg _ (by omega), Int.emod_lt_of_pos _ (by omega)⟩
  have half : ∀ y : Int, 0 ≤ y → 0 ≤ y.fdiv 64 := fun y hy => by
    rw [Int.fdiv_eq_ediv_of_nonneg _ (by omega)]
    exact Int.ediv_nonneg hy (by omega)
  walk_at "gx"
  refine w_cutS0 ?_
  walk_at "gx"
  refine w_cutT0 ?_
  walk_at "gx"
  walk_at "br"
  · walk_at "gx"
    walk_at "br"
    · rename_i _ hl
      obtain ⟨x2, rest, rfl⟩ : ∃ x2 r, rest = x2 :: r := by
        match rest, hl with
        | x2 :: r, _ => exact ⟨x2, r, rfl⟩
      have p2 : 0 ≤ x2 := pr _ (by simp)
      walk_at "gx"
      refine ⟨.inl ⟨rfl, _, SqL.of upd_same⟩, ?_⟩
      walk_at "gx"
      refine ⟨a, _, 2, 2, _, rfl, rfl, upd_same, by decide, by decide, ?_, rfl, ?_⟩
      · exact (ixN_seq (by unfold ixN; rw [if_pos (by decide), if_pos (by simp; omega)]; rfl)).1
      walk_at "gx"
      refine ⟨a, _, 1, 1, rfl, rfl, upd_same, ?_, ?_⟩
      · unfold ixN; rw [if_pos (by decide), if_pos (by simp [List.eraseIdx]; omega)]; rfl
      rw [upd_upd, upd_upd]
      simp only [List.map_cons, List.eraseIdx, List.set]
      walk_at "gx"
      walk_at "br"
      · walk_at "gx"
        refine ⟨a, _, 1, 1, rfl, rfl, upd_same, ?_, ?_⟩
        · unfold ixN; rw [if_pos (by decide), if_pos (by simp; omega)]; rfl
        rw [upd_upd]
        simp only [List.map_cons, List.set]
        walk_at "gx"
        exact fin x0 _ rest _ (mod0 _ p2).1 (mod0 _ p2).2 p0 s0 (div0 _ p2) (fun y hy => pr y (by simp [hy])) (by simp at ml; omega)
      · walk_at "gx"
        refine ⟨a, _, 0, 0, rfl, rfl, upd_same, ?_, ?_⟩
        · unfold ixN; rw [if_pos (by decide), if_pos (by simp; omega)]; rfl
        rw [upd_upd]
        simp only [List.map_cons, List.set]
        walk_at "gx"
        exact fin _ _ rest _ (mod0 _ (half _ (seed _ p0).1)).1 (mod0 _ (half _ (seed _ p0).1)).2 (seed _ p0).1 (seed _ p0).2 p2 (fun y hy => pr y (by simp [hy])) (by simp at ml; omega)
    · walk_at "gx"
      walk_at "br"
      · omega
      · walk_at "gx"
        refine ⟨a, _, 0, 0, rfl, rfl, upd_same, ?_, ?_⟩
        · unfold ixN; rw [if_pos (by decide), if_pos (by simp; omega)]; rfl
        rw [upd_upd]
        simp only [List.map_cons, List.set]
        walk_at "gx"
        exact fin _ _ rest _ (mod0 _ (half _ (seed _ p0).1)).1 (mod0 _ (half _ (seed _ p0).1)).2 (seed _ p0).1 (seed _ p0).2 p1 pr ml
  · walk_at "ff"
    walk_at "gx"
    walk_at "br"
    · walk_at "gx"
      refine ⟨a, _, 1, 1, rfl, rfl, upd_same, ?_, ?_⟩
      · unfold ixN; rw [if_pos (by decide), if_pos (by simp; omega)]; rfl
      rw [upd_upd]
      simp only [List.map_cons, List.set]
      walk_at "gx"
      exact fin x0 _ rest _ (mod0 _ p1).1 (mod0 _ p1).2 p0 s0 (div0 _ p1) pr ml
    · omega
theorem use__law_off {K : PySem.W.Frag} {a : Addr} {n : Int} {H : Hp} {Q : VK} {E : XK} (ha : H a = some (DiceO a)) (h0 : 0 < n ∧ n < 1073741824) (k : ∀ r : Nat, (r : Int) < n → Q (.int r) H) : sp__law_off K [.ref a, .int n] H Q E := ⟨a, n, rfl, ha, h0.1, h0.2, k⟩
local macro_rules | `(tactic| walk_at "st") => `(tactic| ((with_reducible refine use__law_off ?ha ?h0 ?hk); (case ha => walk_at "lift"); (case h0 => constructor <;> walk_at "sz"); intro r hr))

abbrev N__law_row : List Str := ["_law_d", "_law_signs_here", "_law_most", "_law_many", "_law_often", "_law_thick", "_law_row_here", "_law_k", "_law_sign"]
theorem sc__law_row : FnScope N__law_row ["_law_d", "_law_signs_here", "_law_most"] (defScope s__law_row) := ⟨rfl, rfl, rfl, by decide +kernel, rfl, by decide +kernel, by decide +kernel⟩
def sp__law_row (K : PySem.W.Frag) : Sp := fun vs H Q _ => ∃ (a : Addr) (v : V) (ss : List Nat) (m : Int), vs = [.ref a, v, .int m] ∧ H a = some (DiceO a) ∧ SignSeq H v ss ∧ ss ≠ [] ∧ ss.length ≤ 100 ∧ 0 < m ∧ m ≤ 1000 ∧
  ∀ row : List Nat, 1 ≤ row.length → (row.length : Int) ≤ m → (∀ c ∈ row, c ∈ ss) → Q (Tx row) H

theorem ok__law_row {P : Program} {w : World} {K : PySem.W.Frag} {mg : Str → Option Value} {base : Heap} (T : Txt K mg) : Has P w K mg base CX0 2 "_law_row" ["_law_d", "_law_signs_here", "_law_most"] (sp__law_row K) := by
  obtain ⟨f, fd, g, F⟩ := T.f__law_row
  obtain ⟨f__law_off, fd__law_off, g__law_off, kp__law_off, b__law_off, G__law_off⟩ := (ok__law_off (P := P) (w := w) (K := K) (mg := mg) (base := base) T).ex
  refine ⟨f, fd, g, F.kp, F.bindsN (fun _ _ _ _ _ _ us hl => match us, hl with | [_, _, _], _ => rfl), F.ok sc__law_row (fun vs H Q E h => ?_) (fun cdv A outer s H vs Q E hr h => ?_)⟩
  · repeat (first | (obtain ⟨e, _⟩ := h; exact congrArg List.length e) | (obtain ⟨_, h⟩ := h))
  have hu64 : (A.deeper (envOfC "_law_row" (defScope s__law_row) s.heap.objs.size f cdv)).units + 64 < cLine := hr.units
  refine ⟨_, PSs.nox ((pss_cons (ps_set (i := 3) sc__law_row.nd rfl (Or.inl rfl) (pe_op op_addU pe_int (pe_call G__law_off (hr.mono (by decide)) rfl g__law_off kp__law_off b__law_off .nil pass0 (pa_cons (pv 0) (pa_cons (pv 2) pa_nil)))))
      (pss_cons (ps_set (i := 4) sc__law_row.nd rfl (Or.inl rfl) (pe_ix (ix_K (K := K) rfl) (pv 1) (pe_call G__law_off (hr.mono (by decide)) rfl g__law_off kp__law_off b__law_off .nil pass0 (pa_cons (pv 0) (pa_cons (pe_callB (call_lenK (K := K) rfl) (by rfl) T.z_len PySem.boot_len (pa_cons (pv 1) pa_nil)) pa_nil))) (fun _ _ => rfl)))
      (pss_cons (ps_set (i := 5) sc__law_row.nd rfl (Or.inl rfl) (pe_call G__law_off (hr.mono (by decide)) rfl g__law_off kp__law_off b__law_off .nil pass0 (pa_cons (pv 0) (pa_cons pe_int pa_nil))))
      (pss_cons (ps_set (i := 6) sc__law_row.nd rfl (Or.inl rfl) (pe_strL (l := []) (by decide +kernel)))
      (pss_cons (ps_for PassesOwn.never rfl (pi_range1 (by rfl) T.z_range (pa_cons (pv 3) pa_nil)) (pg_name (i := 7) sc__law_row.nd rfl (Or.inl rfl)) (pss_cons (ps_set (i := 8) sc__law_row.nd rfl (Or.inl rfl) (pe_ix (ix_K (K := K) rfl) (pv 1) (pe_call G__law_off (hr.mono (by decide)) rfl g__law_off kp__law_off b__law_off .nil pass0 (pa_cons (pv 0) (pa_cons (pe_callB (call_lenK (K := K) rfl) (by rfl) T.z_len PySem.boot_len (pa_cons (pv 1) pa_nil)) pa_nil))) (fun _ _ => rfl)))
      (pss_one (ps_set (i := 6) sc__law_row.nd rfl (Or.inl rfl) (pe_op op_addU (pv 6) (pe_cut (pe_ifExp (pt_cut (PW.pt (pw_and (pt_cmpR (op_eqK (K := K) rfl hu64) (pv 5) pe_int (nomark _)) (pw_and1 (pt_cmpR (op_eqK (K := K) rfl hu64) (pe_op op_modN (pv 7) pe_int) pe_int (nomark _)))))) (pv 4) (pv 8))))))))
      (pss_one (ps_ret (pv 6))))))))), ?_⟩
  obtain ⟨a, v, ss, m, rfl, ha, hv, hne, hl, m0, m1, k⟩ := h
  (generalize hst : L2.start _ _ = st0; simp only [L2.start, N__law_row, List.map_cons, List.map_nil, List.length_cons, List.length_nil, Nat.reduceAdd, Nat.reduceSub, List.replicate_succ, List.replicate_zero, List.cons_append, List.nil_append, List.append_nil] at hst; subst hst)
  have hss : 0 < ss.length := List.length_pos_iff.mpr hne
  walk_at "go"
  rename_i many hmany
  refine w_lenQ hv (by walk_at "sz") ?_
  walk_at "go"
  rename_i r1 hr1
  refine w_ixQ hv (by walk_at "sz") (by omega) hr1 fun often hoften => ?_
  walk_at "go"
  rename_i thick hthick
  have hof : often ∈ ss := List.mem_of_getElem? hoften
  refine forX_range0 (fun i σ H' => ∃ (row : List Nat) (x1 x2 : Option V), σ = [some (.ref a), some v, some (.int m), some (.int (1 + (many : Int))), some (Tx [often]), some (.int (thick : Int)), some (Tx row), x1, x2] ∧ H' = H ∧ row.length = i ∧ ∀ c ∈ row, c ∈ ss)
    ⟨[], none, none, rfl, rfl, rfl, by simp⟩ ?_ ?_
  · rintro i σ H' hi ⟨row, x1, x2, rfl, rfl, hrow, hin⟩
    walk_at "go"
    refine w_lenQ hv (by walk_at "sz") ?_
    walk_at "go"
    rename_i r2 hr2
    refine w_ixQ hv (by walk_at "sz") (by omega) hr2 fun sign hsign => ?_
    have hsg : sign ∈ ss := List.mem_of_getElem? hsign
    walk_at "go"
    refine w_cutE (fun v H'' => H'' = H' ∧ ∃ c ∈ ss, v = Tx [c]) ?_ ?_
    · walk_at "go"
      refine w_cutT (fun b H'' => H'' = H') ?_ ?_
      · walk_at "go"
        walk_at "br"
        · walk_at "go"
          rfl
        · rfl
      · rintro b H'' rfl
        walk_at "br"
        · walk_at "go"
          exact ⟨rfl, _, hof, rfl⟩
        · walk_at "go"
          exact ⟨rfl, _, hsg, rfl⟩
    · rintro v H'' ⟨rfl, c, hc, rfl⟩
      walk_at "go"
      refine ⟨row ++ [c], _, _, rfl, rfl, by simp [hrow], ?_⟩
      intro d hd
      rcases List.mem_append.mp hd with hd | hd
      · exact hin d hd
      · simp at hd; subst hd; exact hc
  · rintro σ H' ⟨row, x1, x2, rfl, rfl, hrow, hin⟩
    walk_at "go"
    exact k row (by omega) (by omega) hin
theorem use__law_row {K : PySem.W.Frag} {a : Addr} {v : V} {ss : List Nat} {m : Int} {H : Hp} {Q : VK} {E : XK} (ha : H a = some (DiceO a)) (hv : SignSeq H v ss) (hne : ss ≠ []) (hl : ss.length ≤ 100) (hm : 0 < m ∧ m ≤ 1000)
  (k : ∀ row : List Nat, 1 ≤ row.length → (row.length : Int) ≤ m → (∀ c ∈ row, c ∈ ss) → Q (Tx row) H) : sp__law_row K [.ref a, v, .int m] H Q E := ⟨a, v, ss, m, rfl, ha, hv, hne, hl, hm.1, hm.2, k⟩
theorem use__law_rowT {K : PySem.W.Frag} {a : Addr} {ss : List Nat} {m : Int} {H : Hp} {Q : VK} {E : XK} (ha : H a = some (DiceO a)) (hne : ss ≠ []) (hl : ss.length ≤ 100) (hm : 0 < m ∧ m ≤ 1000)
  (k : ∀ row : List Nat, 1 ≤ row.length → (row.length : Int) ≤ m → (∀ c ∈ row, c ∈ ss) → Q (Tx row) H) : sp__law_row K [.ref a, Tx ss, .int m] H Q E := use__law_row ha (.inl rfl) hne hl hm k
local macro_rules | `(tactic| walk_at "st") => `(tactic| ((with_reducible refine use__law_rowT ?ha ?hne ?hl ?hm ?hk); (case ha => walk_at "lift"); (case hne => first | assumption | decide); (case hl => walk_at "sz"); (case hm => constructor <;> walk_at "sz"); intro row hrow1 hrow2 hrow3))

abbrev N__law_mixed : List Str := ["_law_d", "_law_row_here", "_law_left", "_law_found"]
theorem sc__law_mixed : FnScope N__law_mixed ["_law_d", "_law_row_here"] (defScope s__law_mixed) := ⟨rfl, rfl, rfl, by decide +kernel, rfl, by decide +kernel, by decide +kernel⟩
def sp__law_mixed (K : PySem.W.Frag) : Sp := fun vs H Q _ => ∃ (a p : Addr) (xs : List V), vs = [.ref a, .ref p] ∧ H a = some (DiceO a) ∧ H p = some (.lst xs) ∧ xs.length ≤ 1000 ∧ (∀ x ∈ xs, ∃ d, okD 60 d ∧ Rp H x d) ∧
  ∀ q ys H', ys.Perm xs → H q = none → Ex H H' → H' q = some (.lst ys) → Q (.ref q) H'

theorem ok__law_mixed {P : Program} {w : World} {K : PySem.W.Frag} {mg : Str → Option Value} {base : Heap} (T : Txt K mg) : Has P w K mg base CX0 2 "_law_mixed" ["_law_d", "_law_row_here"] (sp__law_mixed K) := by
  obtain ⟨f, fd, g, F⟩ := T.f__law_mixed
  obtain ⟨f__law_off, fd__law_off, g__law_off, kp__law_off, b__law_off, G__law_off⟩ := (ok__law_off (P := P) (w := w) (K := K) (mg := mg) (base := base) T).ex
  refine ⟨f, fd, g, F.kp, F.bindsN (fun _ _ _ _ _ _ us hl => match us, hl with | [_, _], _ => rfl), F.ok sc__law_mixed (fun vs H Q E h => ?_) (fun cdv A outer s H vs Q E hr h => ?_)⟩
  · repeat (first | (obtain ⟨e, _⟩ := h; exact congrArg List.length e) | (obtain ⟨_, h⟩ := h))
  have hu64 : (A.deeper (envOfC "_law_mixed" (defScope s__law_mixed) s.heap.objs.size f cdv)).units + 64 < cLine := hr.units
  refine ⟨_, PSs.nox ((pss_cons (ps_set (i := 2) sc__law_mixed.nd rfl (Or.inl rfl) (pe_callTy (call_listK (K := K) rfl rfl) (by rfl) T.z_list (by decide +kernel) (pa_cons (pv 1) pa_nil)))
      (pss_cons (ps_set (i := 3) sc__law_mixed.nd rfl (Or.inl rfl) (pe_lstX pa_nil))
      (pss_cons (ps_while PassesOwn.never (pt_cut (pt_cmpR (op_neK (K := K) rfl hu64) (pv 2) (pe_lstX pa_nil) (nomark _))) (pss_one (ps_expr (pe_bmK (K := K) rfl PySem.F.plainAttrs_list PySem.F.slot_list_append PySem.F.type_list_append mt_append (pv 3) (pa_cons (pe_bmK (K := K) rfl PySem.F.plainAttrs_list PySem.F.slot_list_pop PySem.F.type_list_pop mt_popAt (pv 2) (pa_cons (pe_call G__law_off (hr.mono (by decide)) rfl g__law_off kp__law_off b__law_off .nil pass0 (pa_cons (pv 0) (pa_cons (pe_callB (call_lenK (K := K) rfl) (by rfl) T.z_len PySem.boot_len (pa_cons (pv 2) pa_nil)) pa_nil))) pa_nil)) pa_nil)))))
      (pss_one (ps_ret (pv 3))))))), ?_⟩
  obtain ⟨a, p, xs, rfl, ha, hp, hl, hx, k⟩ := h
  (generalize hst : L2.start _ _ = st0; simp only [L2.start, N__law_mixed, List.map_cons, List.map_nil, List.length_cons, List.length_nil, Nat.reduceAdd, Nat.reduceSub, List.replicate_succ, List.replicate_zero, List.cons_append, List.nil_append, List.append_nil] at hst; subst hst)
  walk_at "go"
  rename_i p1 H1 hp1 e1 h1 p2 H2 hp2 e2 h2
  have n12 : p1 ≠ p2 := by rintro rfl; rw [h1] at hp2; cases hp2
  have fr : H p2 = none := by
    cases h : H p2 with
    | none => rfl
    | some o => rw [e1 _ _ h] at hp2; cases hp2
  refine w_while (fun m σ H' => ∃ ls fs, σ = [some (.ref a), some (.ref p), some (.ref p1), some (.ref p2)] ∧ Ex H H' ∧ H' p1 = some (.lst ls) ∧ H' p2 = some (.lst fs) ∧ (fs ++ ls).Perm xs ∧ m = ls.length) xs.length
    ⟨xs, [], rfl, e1.trans e2, e2 _ _ h1, h2, by simp, rfl⟩ ?_
  rintro m σ H' ⟨ls, fs, rfl, e, hL, hF, pm, rfl⟩
  have hmem : ∀ x ∈ ls, ∃ d, okD 60 d ∧ Rp H' x d := fun x hx' => by
    obtain ⟨d, h1, h2⟩ := hx x (pm.mem_iff.mp (by simp [hx']))
    exact ⟨d, h1, h2.ex e⟩
  obtain ⟨ds, rds, okds⟩ := rpall_of hmem
  have hlen : ls.length + fs.length ≤ 1000 := by
    have := pm.length_eq
    simp at this; omega
  have na1 : a ≠ p1 := ne_of_none ha hp1
  have na2 : a ≠ p2 := ne_of_none ha fr
  walk_at "go"
  rename_i p3 H3 hp3 e3 h3
  have L3 : H3 p1 = some (.lst ls) := e3 _ _ hL
  refine w_neD (.lst L3 (rds.ex e3)) (.lst h3 .nil) (okD_list okds).shaped rfl ?_
  rw [eqv_nil]
  walk_at "go"
  have hem : ds.isEmpty = ls.isEmpty := by
    have := rds.length
    cases ds <;> cases ls <;> simp_all
  rw [hem]
  cases ls with
  | nil =>
    walk_at "ff"
    walk_at "go"
    refine k _ fs _ (by simpa using pm) fr (e.trans e3) (e3 _ _ hF)
  | cons y ls =>
    walk_at "tt"
    walk_at "go"
    rename_i r hr H4 v hv e4 h4 H5 e5 h5
    have hr' : r < (y :: ls).length := by omega
    refine ⟨_, ?_, (y :: ls).eraseIdx r, fs ++ [v], rfl, Ex.but (Ex.but (Ex.trans e e3) e4 hp1) e5 fr, e5 _ _ n12 h4, h5, ?_, rfl⟩
    · rw [List.length_eraseIdx, if_pos hr']; simp
    · refine List.Perm.trans ?_ pm
      rw [List.append_assoc]
      refine List.Perm.append_left fs ?_
      exact erase_perm _ _ _ hv
theorem use__law_mixed {K : PySem.W.Frag} {a p : Addr} {xs : List V} {H : Hp} {Q : VK} {E : XK} (ha : H a = some (DiceO a)) (hp : H p = some (.lst xs)) (hl : xs.length ≤ 1000) (hx : ∀ x ∈ xs, ∃ d, okD 60 d ∧ Rp H x d)
  (k : ∀ q ys H', ys.Perm xs → H q = none → Ex H H' → H' q = some (.lst ys) → Q (.ref q) H') : sp__law_mixed K [.ref a, .ref p] H Q E := ⟨a, p, xs, rfl, ha, hp, hl, hx, k⟩
local macro_rules | `(tactic| walk_at "st") => `(tactic| ((with_reducible refine use__law_mixed (xs := ?xs) ?ha ?hp ?hl ?hx ?hk); (case ha => walk_at "lift"); (case hp => walk_at "lift"); (case hl => walk_at "sz"); (case hx => first | assumption | exact signs_ok (by first | assumption | decide)); intro q ys H2 pm hq e h2))

abbrev N__law_signs : List Str := ["_law_d"]
theorem sc__law_signs : FnScope N__law_signs ["_law_d"] (defScope s__law_signs) := ⟨rfl, rfl, rfl, by decide +kernel, rfl, by decide +kernel, by decide +kernel⟩
def sp__law_signs (K : PySem.W.Frag) : Sp := fun vs H Q _ => ∃ a : Addr, vs = [.ref a] ∧ H a = some (DiceO a) ∧
  ∀ (ss : List Nat) H', Ex H H' → ss ≠ [] → ss.length ≤ 8 → ss.Nodup → (∀ c ∈ ss, c ∈ abcS) → Q (Tx ss) H'

theorem ok__law_signs {P : Program} {w : World} {K : PySem.W.Frag} {mg : Str → Option Value} {base : Heap} (T : Txt K mg) : Has P w K mg base CX0 3 "_law_signs" ["_law_d"] (sp__law_signs K) := by
  obtain ⟨f, fd, g, F⟩ := T.f__law_signs
  obtain ⟨f__law_mixed, fd__law_mixed, g__law_mixed, kp__law_mixed, b__law_mixed, G__law_mixed⟩ := (ok__law_mixed (P := P) (w := w) (K := K) (mg := mg) (base := base) T).ex
  obtain ⟨f__law_off, fd__law_off, g__law_off, kp__law_off, b__law_off, G__law_off⟩ := (ok__law_off (P := P) (w := w) (K := K) (mg := mg) (base := base) T).ex
  refine ⟨f, fd, g, F.kp, F.bindsN (fun _ _ _ _ _ _ us hl => match us, hl with | [_], _ => rfl), F.ok sc__law_signs (fun vs H Q E h => ?_) (fun cdv A outer s H vs Q E hr h => ?_)⟩
  · repeat (first | (obtain ⟨e, _⟩ := h; exact congrArg List.length e) | (obtain ⟨_, h⟩ := h))
  have hu64 : (A.deeper (envOfC "_law_signs" (defScope s__law_signs) s.heap.objs.size f cdv)).units + 64 < cLine := hr.units
  refine ⟨_, PSs.nox ((pss_one (ps_ret (pe_bmK (K := K) rfl PySem.F.plainAttrs_str PySem.F.slot_str_join PySem.F.type_str_join (mt_joinK (K := K) rfl) (pe_strL (l := []) (by decide +kernel)) (pa_cons (pe_slice sl_U (pe_call G__law_mixed (hr.mono (by decide)) rfl g__law_mixed kp__law_mixed b__law_mixed .nil pass0 (pa_cons (pv 0) (pa_cons (pe_callTy (call_listK (K := K) rfl rfl) (by rfl) T.z_list (by decide +kernel) (pa_cons (pe_strL (l := [97, 98, 99, 100, 101, 102, 103, 104]) (by decide +kernel)) pa_nil)) pa_nil))) po_none (po_some (pe_op op_addU pe_int (pe_call G__law_off (hr.mono (by decide)) rfl g__law_off kp__law_off b__law_off .nil pass0 (pa_cons (pv 0) (pa_cons pe_int pa_nil)))))) pa_nil))))), ?_⟩
  obtain ⟨a, rfl, ha, k⟩ := h
  (generalize hst : L2.start _ _ = st0; simp only [L2.start, N__law_signs, List.map_cons, List.map_nil, List.length_cons, List.length_nil, Nat.reduceAdd, Nat.reduceSub, List.replicate_succ, List.replicate_zero, List.cons_append, List.nil_append, List.append_nil] at hst; subst hst)
  walk_at "go"
  rename_i p H1 hp e1 h1 q ys H2 pm hq e2 h2 r hr p3 H3 hp3 e3 h3
  obtain ⟨m, hm, rfl⟩ := perm_map pm
  have hml : m.length = 8 := hm.length_eq
  have e : cutL (m.map fun c => Tx [c]) none (some (1 + (r : Int))) = (m.take (r + 1)).map fun c => Tx [c] := by
    rw [cutL_to _ (by omega), ← List.map_take]
    have : (1 + (r : Int)).toNat = r + 1 := by omega
    rw [this]
  have hlen : (m.take (r + 1)).length ≤ 8 := by simp; omega
  rw [e] at h3
  refine w_join1 h3 (by omega) ?_
  · walk_at "go"
    refine k _ _ ((e1.trans e2).trans e3) ?_ ?_ ?_ ?_
    · intro q
      have := congrArg List.length q
      rw [List.length_take, hml] at this
      simp only [List.length_nil] at this
      omega
    · simp; omega
    · exact (hm.nodup_iff.mpr (by decide)).sublist (List.take_sublist _ _)
    · intro c hc
      exact hm.mem_iff.mp (List.mem_of_mem_take hc)
theorem use__law_signs {K : PySem.W.Frag} {a : Addr} {H : Hp} {Q : VK} {E : XK} (ha : H a = some (DiceO a)) (k : ∀ (ss : List Nat) H', Ex H H' → ss ≠ [] → ss.length ≤ 8 → ss.Nodup → (∀ c ∈ ss, c ∈ abcS) → Q (Tx ss) H') : sp__law_signs K [.ref a] H Q E := ⟨a, rfl, ha, k⟩
local macro_rules | `(tactic| walk_at "st") => `(tactic| ((with_reducible refine use__law_signs ?ha ?hk); (case ha => walk_at "lift"); intro ss H2 e2 hss1 hss2 hss3 hss4))

abbrev N__law_pins : List Str := ["_law_d", "_law_row_here", "_law_kind", "_law_often", "_law_sign"]
theorem sc__law_pins : FnScope N__law_pins ["_law_d", "_law_row_here"] (defScope s__law_pins) := ⟨rfl, rfl, rfl, by decide +kernel, rfl, by decide +kernel, by decide +kernel⟩
def sp__law_pins (K : PySem.W.Frag) : Sp := fun vs H Q _ => ∃ (a : Addr) (v : V), vs = [.ref a, v] ∧ H a = some (DiceO a) ∧
  ∀ (ss : List Nat) H', Ex H H' → ss.Sublist abcS → Q (Tx ss) H'

theorem ok__law_pins {P : Program} {w : World} {K : PySem.W.Frag} {mg : Str → Option Value} {base : Heap} (T : Txt K mg) : Has P w K mg base CX0 2 "_law_pins" ["_law_d", "_law_row_here"] (sp__law_pins K) := by
  obtain ⟨f, fd, g, F⟩ := T.f__law_pins
  obtain ⟨f__law_off, fd__law_off, g__law_off, kp__law_off, b__law_off, G__law_off⟩ := (ok__law_off (P := P) (w := w) (K := K) (mg := mg) (base := base) T).ex
  refine ⟨f, fd, g, F.kp, F.bindsN (fun _ _ _ _ _ _ us hl => match us, hl with | [_, _], _ => rfl), F.ok sc__law_pins (fun vs H Q E h => ?_) (fun cdv A outer s H vs Q E hr h => ?_)⟩
  · repeat (first | (obtain ⟨e, _⟩ := h; exact congrArg List.length e) | (obtain ⟨_, h⟩ := h))
  have hu64 : (A.deeper (envOfC "_law_pins" (defScope s__law_pins) s.heap.objs.size f cdv)).units + 64 < cLine := hr.units
  refine ⟨_, PSs.nox ((pss_cons (ps_set (i := 2) sc__law_pins.nd rfl (Or.inl rfl) (pe_call G__law_off (hr.mono (by decide)) rfl g__law_off kp__law_off b__law_off .nil pass0 (pa_cons (pv 0) (pa_cons pe_int pa_nil))))
      (pss_cons (ps_if (pt_cmpR (op_eqK (K := K) rfl hu64) (pv 2) pe_int (nomark _)) (pss_one (ps_ret (pe_strL (l := []) (by decide +kernel)))) pss_nil)
      (pss_cons (ps_set (i := 3) sc__law_pins.nd rfl (Or.inr rfl) (pe_ix (ix_K (K := K) rfl) (pe_lstX (pa_cons pe_int (pa_cons pe_int (pa_cons pe_int (pa_cons pe_int pa_nil))))) (pv 2) (fun _ _ => rfl)))
      (pss_one (ps_ret (pe_bmK (K := K) rfl PySem.F.plainAttrs_str PySem.F.slot_str_join PySem.F.type_str_join (mt_joinK (K := K) rfl) (pe_strL (l := []) (by decide +kernel)) (pa_cons (pe_lc (own := [("_law_sign", 4)]) rfl sc__law_pins.nd (pi_anyK (K := K) rfl (pe_strL (l := [97, 98, 99, 100, 101, 102, 103, 104]) (by decide +kernel))) (blkOk_by (own := [("_law_sign", 4)]) (N := N__law_pins) (sc := defScope s__law_pins) (by decide +kernel)) (fun _ _ _ _ _ => (pg_name (i := 4) sc__law_pins.nd rfl (Or.inl rfl))) (fun _ _ _ _ _ => (pts_cut (pts_one (pt_cmpR (op_eqK (K := K) rfl hu64) (pe_call G__law_off (hr.mono (by decide)) rfl g__law_off kp__law_off b__law_off .nil pass0 (pa_cons (pv 0) (pa_cons (pv 3) pa_nil))) pe_int (nomark _))))) (fun _ _ _ _ _ => (pe_cut (pv 4)))) pa_nil)))))))), ?_⟩
  obtain ⟨a, v, rfl, ha, k⟩ := h
  (generalize hst : L2.start _ _ = st0; simp only [L2.start, N__law_pins, List.map_cons, List.map_nil, List.length_cons, List.length_nil, Nat.reduceAdd, Nat.reduceSub, List.replicate_succ, List.replicate_zero, List.cons_append, List.nil_append, List.append_nil] at hst; subst hst)
  walk_at "go"
  rename_i kind hk
  walk_at "br"
  · walk_at "go"
    exact k [] _ (Ex.refl _) (by simp)
  · rename_i hkn
    walk_at "go"
    rename_i p H1 hp e1 h1 w hw
    obtain ⟨b, rfl, b0, b1⟩ : ∃ b : Int, w = .int b ∧ 0 < b ∧ b ≤ 4 := by
      have h3 : kind = 1 ∨ kind = 2 ∨ kind = 3 := by omega
      rcases h3 with rfl | rfl | rfl <;> simp at hw <;> subst hw <;> exact ⟨_, rfl, by decide, by decide⟩
    refine lcX_rel walk_tx (by decide) (fun i ds => ∃ l : List Nat, ds = l.map (fun c => .str (S [c])) ∧ l.Sublist (abcS.take i)) ⟨[], rfl, by simp⟩ (fun _ _ => trivial) (fun v => rfl) ?_ ?_
    · rintro i x H2 H3 d0 hi e2 ⟨l, rfl, hl⟩ ⟨rfl, c, hc, rfl⟩
      have tm : abcS.take (i + 1) = abcS.take i ++ [c] := take_more hc
      unfold LcStep
      walk_at "go"
      walk_at "br"
      · walk_at "go"
        refine ⟨Ex.refl _, .str (S [c]), rfl, .str _, l ++ [c], by simp, ?_⟩
        rw [tm]
        exact hl.append (List.Sublist.refl _)
      · refine ⟨Ex.refl _, l, rfl, ?_⟩
        rw [tm]
        exact hl.trans (List.sublist_append_left _ _)
    · rintro q H2 acc ds hq e2 h2 r ⟨l, rfl, hl⟩ hacc
      have hA := rpall_signs (g := fun c => c) r
      simp only [List.map_id_fun', id_eq] at hA
      subst hA
      have hl8 : l.length ≤ 8 := by simpa using hacc
      walk_at "go"
      exact k l _ (e1.trans e2) hl
theorem use__law_pins {K : PySem.W.Frag} {a : Addr} {v : V} {H : Hp} {Q : VK} {E : XK} (ha : H a = some (DiceO a)) (k : ∀ (ss : List Nat) H', Ex H H' → ss.Sublist abcS → Q (Tx ss) H') : sp__law_pins K [.ref a, v] H Q E := ⟨a, v, rfl, ha, k⟩
local macro_rules | `(tactic| walk_at "st") => `(tactic| ((with_reducible refine use__law_pins ?ha ?hk); (case ha => walk_at "lift"); intro ss H2 e2 hss))

abbrev N_need_row : List Str := ["row", "place", "sign"]
theorem sc_need_row : FnScope N_need_row ["row"] (defScope s_need_row) := ⟨rfl, rfl, rfl, by decide +kernel, rfl, by decide +kernel, by decide +kernel⟩
def sp_need_row (K : PySem.W.Frag) : Sp := fun vs H Q _ => ∃ row : List Nat, vs = [Tx row] ∧ 1 ≤ row.length ∧ row.length ≤ 40 ∧ (∀ c ∈ row, c ∈ abcS) ∧ ∀ H', Ex H H' → Q .non H'

theorem ok_need_row {P : Program} {w : World} {K : PySem.W.Frag} {mg : Str → Option Value} {base : Heap} (T : Txt K mg) : Has P w K mg base CX0 1 "need_row" ["row"] (sp_need_row K) := by
  obtain ⟨f, fd, g, F⟩ := T.f_need_row
  refine ⟨f, fd, g, F.kp, F.bindsN (fun _ _ _ _ _ _ us hl => match us, hl with | [_], _ => rfl), F.ok sc_need_row (fun vs H Q E h => ?_) (fun cdv A outer s H vs Q E hr h => ?_)⟩
  · repeat (first | (obtain ⟨e, _⟩ := h; exact congrArg List.length e) | (obtain ⟨_, h⟩ := h))
  have hu64 : (A.deeper (envOfC "need_row" (defScope s_need_row) s.heap.objs.size f cdv)).units + 64 < cLine := hr.units
  refine ⟨_, PSs.nox ((pss_cons (ps_if (pt_cut (PW.pt (pw_or (pt_not (pt_val (pe_callB call_isU (by rfl) T.z_isinstance (by decide +kernel) (pa_cons (pv 0) (pa_cons (pe_bltn (v := .ty "str") rfl T.z_str (by decide +kernel) rfl) pa_nil))))) (pw_or1 (pt_cmpR (op_eqK (K := K) rfl hu64) (pv 0) (pe_strL (l := []) (by decide +kernel)) (nomark _)))))) (pss_one ps_never) pss_nil)
      (pss_one (ps_for PassesOwn.never rfl (pi_enumX (by rfl) T.z_enumerate (pa_cons (pv 0) pa_nil)) (pg_tupK (K := K) (n := 2) rfl (by rfl) (pgs_cons (pg_name (i := 1) sc_need_row.nd rfl (Or.inl rfl)) (pgs_cons (pg_name (i := 2) sc_need_row.nd rfl (Or.inl rfl)) pgs_nil))) (pss_one (ps_if (pt_cut (PW.pt (pw_or (pt_cmpR (op_eqK (K := K) rfl hu64) (pv 1) (pe_gc rfl T.c_MOST_SIGNS) (nomark _)) (pw_or1 (pt_cmpR (op_notInK (K := K) rfl) (pv 2) (pe_gc rfl T.c_SIGNS) (by rfl)))))) (pss_one ps_never) pss_nil)))))), ?_⟩
  obtain ⟨row, rfl, h1, h2, h3, k⟩ := h
  (generalize hst : L2.start _ _ = st0; simp only [L2.start, N_need_row, List.map_cons, List.map_nil, List.length_cons, List.length_nil, Nat.reduceAdd, Nat.reduceSub, List.replicate_succ, List.replicate_zero, List.cons_append, List.nil_append, List.append_nil] at hst; subst hst)
  walk_at "go"
  refine w_cutB false ?_ ?_
  · walk_at "go"
    exact ⟨decide_eq_false (by intro q; simp [q] at h1), rfl⟩
  walk_at "ff"
  walk_at "go"
  refine forX_it walk_w (fun i σ H' => ∃ x y : Option V, σ = [some (Tx row), x, y] ∧ Ex H H') ⟨none, none, rfl, Ex.refl _⟩ (fun _ _ _ _ _ => trivial) ?_ ?_
  · rintro i v σ H1 H2 hi ⟨x, y, rfl, e⟩ ⟨T, xs, rfl, hT, e2, hT2, c, hc, rfl⟩
    have hm : c ∈ [97, 98, 99, 100, 101, 102, 103, 104] := h3 c (List.mem_of_getElem? hc)
    refine g2_ok hT2 ?_
    walk_at "go"
    refine w_cutB false ?_ ?_
    · walk_at "go"
      rw [decide_eq_false (by omega)]
      walk_at "go"
      rw [decide_eq_true hm]
      exact ⟨rfl, rfl⟩
    walk_at "go"
    exact ⟨_, _, rfl, e.trans e2⟩
  · rintro σ H1 ⟨x, y, rfl, e⟩
    walk_at "go"
    exact k _ e
theorem use_need_row {K : PySem.W.Frag} {row : List Nat} {H : Hp} {Q : VK} {E : XK} (h1 : 1 ≤ row.length) (h2 : row.length ≤ 40) (h3 : ∀ c ∈ row, c ∈ abcS) (k : ∀ H', Ex H H' → Q .non H') : sp_need_row K [Tx row] H Q E := ⟨row, rfl, h1, h2, h3, k⟩
local macro_rules | `(tactic| walk_at "st") => `(tactic| ((with_reducible refine use_need_row ?h1 ?h2 ?h3 ?hk); (case h1 => walk_at "sz"); (case h2 => walk_at "sz"); (case h3 => assumption); intro H2 e2))

abbrev N_need_pins : List Str := ["pins", "sign", "one", "other"]
theorem sc_need_pins : FnScope N_need_pins ["pins"] (defScope s_need_pins) := ⟨rfl, rfl, rfl, by decide +kernel, rfl, by decide +kernel, by decide +kernel⟩
def sp_need_pins (K : PySem.W.Frag) : Sp := fun vs H Q _ => ∃ ss : List Nat, vs = [Tx ss] ∧ ss.Sublist abcS ∧ ∀ H', Ex H H' → Q .non H'

theorem ok_need_pins {P : Program} {w : World} {K : PySem.W.Frag} {mg : Str → Option Value} {base : Heap} (T : Txt K mg) : Has P w K mg base CX0 1 "need_pins" ["pins"] (sp_need_pins K) := by
  obtain ⟨f, fd, g, F⟩ := T.f_need_pins
  refine ⟨f, fd, g, F.kp, F.bindsN (fun _ _ _ _ _ _ us hl => match us, hl with | [_], _ => rfl), F.ok sc_need_pins (fun vs H Q E h => ?_) (fun cdv A outer s H vs Q E hr h => ?_)⟩
  · repeat (first | (obtain ⟨e, _⟩ := h; exact congrArg List.length e) | (obtain ⟨_, h⟩ := h))
  have hu64 : (A.deeper (envOfC "need_pins" (defScope s_need_pins) s.heap.objs.size f cdv)).units + 64 < cLine := hr.units
  refine ⟨_, PSs.nox ((pss_cons (ps_if (pt_cut (PW.pt (pw_or (pt_not (pt_val (pe_callB call_isU (by rfl) T.z_isinstance (by decide +kernel) (pa_cons (pv 0) (pa_cons (pe_bltn (v := .ty "str") rfl T.z_str (by decide +kernel) rfl) pa_nil))))) (pw_or1 (pt_val (pe_callB (call_anyK (K := K) rfl rfl) (by rfl) T.z_any (by decide +kernel) (pa_cons (pe_lc (own := [("sign", 1)]) rfl sc_need_pins.nd (pi_anyK (K := K) rfl (pv 0)) (blkOk_by (own := [("sign", 1)]) (N := N_need_pins) (sc := defScope s_need_pins) (by decide +kernel)) (fun _ _ _ _ _ => (pg_name (i := 1) sc_need_pins.nd rfl (Or.inl rfl))) (fun _ _ _ _ _ => (pts_cut pts_nil)) (fun _ _ _ _ _ => (pe_cut (pe_cmpR (op_notInK (K := K) rfl) (pv 1) (pe_gc rfl T.c_SIGNS) (by rfl))))) pa_nil))))))) (pss_one ps_never) pss_nil)
      (pss_one (ps_if (pt_val (pe_callB (call_anyK (K := K) rfl rfl) (by rfl) T.z_any (by decide +kernel) (pa_cons (pe_lc (own := [("one", 2), ("other", 3)]) rfl sc_need_pins.nd (pi_zipX (by rfl) T.z_zip (pa_cons (pv 0) (pa_cons (pe_slice sl_U (pv 0) (po_some pe_int) po_none) pa_nil))) (blkOk_by (own := [("one", 2), ("other", 3)]) (N := N_need_pins) (sc := defScope s_need_pins) (by decide +kernel)) (fun _ _ _ _ _ => (pg_tupK (K := K) (n := 2) rfl (by rfl) (pgs_cons (pg_name (i := 2) sc_need_pins.nd rfl (Or.inl rfl)) (pgs_cons (pg_name (i := 3) sc_need_pins.nd rfl (Or.inl rfl)) pgs_nil)))) (fun _ _ _ _ _ => (pts_cut pts_nil)) (fun _ _ _ _ _ => (pe_cut (pe_cmpR op_geU (pv 2) (pv 3) (nomark _))))) pa_nil))) (pss_one ps_never) pss_nil)))), ?_⟩
  obtain ⟨ss, rfl, hs, k⟩ := h
  (generalize hst : L2.start _ _ = st0; simp only [L2.start, N_need_pins, List.map_cons, List.map_nil, List.length_cons, List.length_nil, Nat.reduceAdd, Nat.reduceSub, List.replicate_succ, List.replicate_zero, List.cons_append, List.nil_append, List.append_nil] at hst; subst hst)
  have hlen : ss.length ≤ 8 := hs.length_le
  walk_at "go"
  refine w_cutT (fun b H' => b = false ∧ Ex H H') ?_ ?_
  · walk_at "go"
    refine lcX_bl walk_tx (by omega) (fun _ => false) (fun _ _ => trivial) (fun v => rfl) ?_ ?_
    · rintro i x H1 H2 Q' hi e ⟨rfl, c, hc, rfl⟩ kk
      have hm : c ∈ [97, 98, 99, 100, 101, 102, 103, 104] := hs.subset (List.mem_of_getElem? hc)
      walk_at "go"
      rw [decide_eq_true hm]
      exact kk _ (Ex.refl _)
    · intro p H2 hp e h2
      walk_at "go"
      refine w_any h2 ?_
      rw [any_range fun _ _ => rfl]
      walk_at "go"
      exact ⟨rfl, e⟩
  · rintro b H1 ⟨rfl, e1⟩
    walk_at "go"
    refine lcX_bl2 (K := K) walk_w (fun i xs ⟨c, d, _, _, e⟩ => ⟨_, _, e⟩) (by omega) (fun _ => false) (fun _ _ => trivial) (fun v v' => rfl) ?_ ?_
    · rintro i x y H2 H3 Q' hi e ⟨c, d, hc, hd, exy⟩ e3 kk
      cases exy
      have hlt : c < d := by
        rw [cutL_from _ (by decide), List.getElem?_drop] at hd
        have hp : ss.Pairwise (· < ·) := List.Pairwise.sublist hs (by decide)
        obtain ⟨b1, q1⟩ := List.getElem?_eq_some_iff.mp hc
        obtain ⟨b2, q2⟩ := List.getElem?_eq_some_iff.mp hd
        rw [← q1, ← q2]
        exact List.pairwise_iff_getElem.mp hp _ _ _ _ (by simp)
      walk_at "go"
      rw [decide_eq_false (by omega)]
      exact kk _ e3
    · intro p H2 hp e h2
      walk_at "go"
      refine w_any h2 ?_
      rw [any_range fun _ _ => rfl]
      walk_at "go"
      exact k _ (e1.trans e)
theorem use_need_pins {K : PySem.W.Frag} {ss : List Nat} {H : Hp} {Q : VK} {E : XK} (hs : ss.Sublist abcS) (k : ∀ H', Ex H H' → Q .non H') : sp_need_pins K [Tx ss] H Q E := ⟨ss, rfl, hs, k⟩
local macro_rules | `(tactic| walk_at "st") => `(tactic| ((with_reducible refine use_need_pins ?hs ?hk); (case hs => first | assumption | decide); intro H2 e2))

abbrev N_turns_of : List Str := ["row", "pins", "found", "here", "sign", "there"]
theorem sc_turns_of : FnScope N_turns_of ["row", "pins"] (defScope s_turns_of) := ⟨rfl, rfl, rfl, by decide +kernel, rfl, by decide +kernel, by decide +kernel⟩
def sp_turns_of (K : PySem.W.Frag) : Sp := fun vs H Q _ => ∃ (row held : List Nat), vs = [Tx row, Tx held] ∧ row.length ≤ 200 ∧
  ∀ p acc H', H p = none → Ex H H' → H' p = some (.lst acc) → acc.length ≤ 40000 → RpAll H' acc ((turnsM row held).map dPair) → Q (.ref p) H'

theorem ok_turns_of {P : Program} {w : World} {K : PySem.W.Frag} {mg : Str → Option Value} {base : Heap} (T : Txt K mg) : Has P w K mg base CX0 1 "turns_of" ["row", "pins"] (sp_turns_of K) := by
  obtain ⟨f, fd, g, F⟩ := T.f_turns_of
  refine ⟨f, fd, g, F.kp, F.bindsN (fun _ _ _ _ _ _ us hl => match us, hl with | [_, _], _ => rfl), F.ok sc_turns_of (fun vs H Q E h => ?_) (fun cdv A outer s H vs Q E hr h => ?_)⟩
  · repeat (first | (obtain ⟨e, _⟩ := h; exact congrArg List.length e) | (obtain ⟨_, h⟩ := h))
  have hu64 : (A.deeper (envOfC "turns_of" (defScope s_turns_of) s.heap.objs.size f cdv)).units + 64 < cLine := hr.units
  refine ⟨_, PSs.nox ((pss_cons (ps_set (i := 2) sc_turns_of.nd rfl (Or.inl rfl) (pe_lstX pa_nil))
      (pss_cons (ps_for PassesOwn.never rfl (pi_enumX (by rfl) T.z_enumerate (pa_cons (pv 0) pa_nil)) (pg_tupK (K := K) (n := 2) rfl (by rfl) (pgs_cons (pg_name (i := 3) sc_turns_of.nd rfl (Or.inr rfl)) (pgs_cons (pg_name (i := 4) sc_turns_of.nd rfl (Or.inr rfl)) pgs_nil))) (pss_one (ps_cut (ps_if (pt_cmpR (op_notInK (K := K) rfl) (pv 4) (pv 1) (by rfl)) (pss_one (ps_expr (pe_bmK (K := K) rfl PySem.F.plainAttrs_list PySem.F.slot_list_extend PySem.F.type_list_extend mt_extend (pv 2) (pa_cons (pe_lc (own := [("there", 5)]) rfl sc_turns_of.nd (pi_range2 (by rfl) T.z_range (pa_cons (pe_op op_addU (pv 3) pe_int) (pa_cons (pe_callB (call_lenK (K := K) rfl) (by rfl) T.z_len PySem.boot_len (pa_cons (pv 0) pa_nil)) pa_nil))) (blkOk_by (own := [("there", 5)]) (N := N_turns_of) (sc := defScope s_turns_of) (by decide +kernel)) (fun _ _ _ _ _ => (pg_name (i := 5) sc_turns_of.nd rfl (Or.inl rfl))) (fun _ _ _ _ _ => (pts_cut (pts_one (pt_cmpR (op_eqK (K := K) rfl hu64) (pe_ix (ix_K (K := K) rfl) (pv 0) (pv 5) (fun _ _ => rfl)) (pv 4) (nomark _))))) (fun _ _ _ _ _ => (pe_cut (pe_tupX (pa_cons (pv 3) (pa_cons (pv 5) pa_nil)))))) pa_nil)))) pss_nil))))
      (pss_one (ps_ret (pv 2)))))), ?_⟩
  obtain ⟨row, held, rfl, hl, k⟩ := h
  (generalize hst : L2.start _ _ = st0; simp only [L2.start, N_turns_of, List.map_cons, List.map_nil, List.length_cons, List.length_nil, Nat.reduceAdd, Nat.reduceSub, List.replicate_succ, List.replicate_zero, List.cons_append, List.nil_append, List.append_nil] at hst; subst hst)
  walk_at "go"
  rename_i p H1 hp e1 h1
  refine forX_it walk_w (fun i σ H' => ∃ x y z : Option V, σ = [some (Tx row), some (Tx held), some (.ref p), x, y, z] ∧ LcInv H p (((List.range i).flatMap (turnsAt row held)).map dPair) (i * 200) H')
    ⟨none, none, none, rfl, .start hp e1 h1⟩ (fun _ _ _ _ _ => trivial) ?_ ?_
  · rintro i v σ H1 H2 hi ⟨x, y, z, rfl, inv⟩ ⟨T, xs, rfl, hT, e2, hT2, c, hc, rfl⟩
    refine g2_ok hT2 ?_
    have gi : row.getD i 0 = c := by rw [List.getD_eq_getElem?_getD, hc]; rfl
    obtain ⟨acc, i1, i2, i3, i4, i5, i6⟩ := inv.ex e2 (Nat.le_refl _)
    rw [turns_more]
    walk_at "go"
    refine w_cutS0 ?_
    walk_at "go"
    by_cases c1 : c ∈ held
    · rw [decide_eq_true c1]
      walk_at "go"
      refine ⟨_, _, _, rfl, acc, i1, i2, i3, ?_, ?_, by omega⟩
      · have : turnsAt row held i = [] := by unfold turnsAt turnsIn; rw [if_pos (by rw [gi]; exact c1)]
        rw [this, List.append_nil]; exact i4
      · exact flat_pairs _
    · rw [decide_eq_false c1]
      walk_at "go"
      refine lcX_1 walk_range (by omega) (fun j => (turnsIn row held i j).map dPair) (by simp [turnsIn]) (fun _ _ => trivial) (fun v => rfl) ?_ ?_
      · rintro j x H3 H4 hj e3 ⟨rfl, rfl⟩
        have hj' : i + 1 + j < row.length := by omega
        unfold LcStep
        walk_at "go"
        rename_i d hd
        have gj : row.getD (i + 1 + j) 0 = d := by
          have : ((i : Int) + 1 + (j : Int)).toNat = i + 1 + j := by omega
          rw [this] at hd
          rw [List.getD_eq_getElem?_getD, hd]; rfl
        have tm := turnsIn_more row held i j
        rw [gi, gj] at tm
        by_cases c2 : d = c
        · rw [decide_eq_true c2]
          rw [if_pos ⟨c1, c2⟩] at tm
          walk_at "go"
          rename_i U H5 hU e5 h5
          refine ⟨e5, dPair (i, i + 1 + j), rfl, rp_pair (by rw [h5]; simp), ?_⟩
          show _ = _
          rw [tm, List.map_append]; rfl
        · rw [decide_eq_false c2]
          rw [if_neg (fun q => c2 q.2)] at tm
          refine ⟨Ex.refl _, ?_⟩
          show _ = _
          rw [tm, List.append_nil]
      · intro q H3 acc2 hq e3 h3 r3 hl3
        have i3' := e3 _ _ i3
        walk_at "go"
        rename_i H4 e4 h4
        have en : ((row.length : Int) - ((i : Int) + 1)).toNat = row.length - (i + 1) := by omega
        rw [en] at r3 hl3
        refine ⟨_, _, _, rfl, ?_⟩
        rw [List.map_append, Nat.succ_mul]
        exact LcInv.ext i1 (i2.trans e3) i3' (i4.ex e3) i5 i6 r3 (flat_pairs _) (by omega) e4 h4
  · rintro σ H2 ⟨x, y, z, rfl, acc, h1, h2, h3, h4, h5, h6⟩
    walk_at "go"
    have : row.length * 200 ≤ 40000 := by omega
    exact k p acc _ h1 h2 h3 (by omega) (by simpa [turnsM] using h4)
theorem use_turns_of {K : PySem.W.Frag} {row held : List Nat} {H : Hp} {Q : VK} {E : XK} (hl : row.length ≤ 200) (k : ∀ p acc H', H p = none → Ex H H' → H' p = some (.lst acc) → acc.length ≤ 40000 → RpAll H' acc ((turnsM row held).map dPair) → Q (.ref p) H') : sp_turns_of K [Tx row, Tx held] H Q E := ⟨row, held, rfl, hl, k⟩
local macro_rules | `(tactic| walk_at "st") => `(tactic| ((with_reducible refine use_turns_of ?hl ?hk); (case hl => walk_at "sz"); intro p acc H2 hp e2 h2 hl2 r2))

abbrev N_turns : List Str := ["row", "pins"]
theorem sc_turns : FnScope N_turns ["row", "pins"] (defScope s_turns) := ⟨rfl, rfl, rfl, by decide +kernel, rfl, by decide +kernel, by decide +kernel⟩
def sp_turns (K : PySem.W.Frag) : Sp := fun vs H Q _ => ∃ (row held : List Nat), vs = [Tx row, Tx held] ∧ 1 ≤ row.length ∧ row.length ≤ 40 ∧ (∀ c ∈ row, c ∈ abcS) ∧ held.Sublist abcS ∧
  ∀ p acc H', H p = none → Ex H H' → H' p = some (.lst acc) → acc.length ≤ 40000 → RpAll H' acc ((turnsM row held).map dPair) → Q (.ref p) H'

theorem ok_turns {P : Program} {w : World} {K : PySem.W.Frag} {mg : Str → Option Value} {base : Heap} (T : Txt K mg) : HasK P w K mg base CX0 2 "turns" ["row", "pins"] 1 ["pins"] [.str (S [])] (sp_turns K) := by
  obtain ⟨f, fd, g, F⟩ := T.f_turns
  obtain ⟨f_need_pins, fd_need_pins, g_need_pins, kp_need_pins, b_need_pins, G_need_pins⟩ := (ok_need_pins (P := P) (w := w) (K := K) (mg := mg) (base := base) T).ex
  obtain ⟨f_need_row, fd_need_row, g_need_row, kp_need_row, b_need_row, G_need_row⟩ := (ok_need_row (P := P) (w := w) (K := K) (mg := mg) (base := base) T).ex
  obtain ⟨f_turns_of, fd_turns_of, g_turns_of, kp_turns_of, b_turns_of, G_turns_of⟩ := (ok_turns_of (P := P) (w := w) (K := K) (mg := mg) (base := base) T).ex
  have KB := kbn (ps := ["row", "pins"]) F 1 ["pins"] (fun _ _ _ _ _ _ us ws h1 h2 => match us, ws, h1, h2 with | [_], [_], _, _ => rfl)
  obtain ⟨ds, VD, BD⟩ := F.binds0 (ps := ["row", "pins"]) 1 (by simp) rfl (fun _ _ _ _ _ _ us ks h1 h2 => match us, ks, h1, h2 with | [_], [_], _, _ => ⟨_, _, _, _, _, _, rfl, rfl, rfl⟩)
  refine ⟨f, fd, ds, g, F.kp, KB, .inr ⟨VD, BD⟩, F.ok sc_turns (fun vs H Q E h => ?_) (fun cdv A outer s H vs Q E hr h => ?_)⟩
  · repeat (first | (obtain ⟨e, _⟩ := h; exact congrArg List.length e) | (obtain ⟨_, h⟩ := h))
  have hu64 : (A.deeper (envOfC "turns" (defScope s_turns) s.heap.objs.size f cdv)).units + 64 < cLine := hr.units
  refine ⟨_, PSs.nox ((pss_cons (ps_expr (pe_call G_need_row (hr.mono (by decide)) rfl g_need_row kp_need_row b_need_row .nil pass0 (pa_cons (pv 0) pa_nil)))
      (pss_cons (ps_expr (pe_call G_need_pins (hr.mono (by decide)) rfl g_need_pins kp_need_pins b_need_pins .nil pass0 (pa_cons (pv 1) pa_nil)))
      (pss_one (ps_ret (pe_call G_turns_of (hr.mono (by decide)) rfl g_turns_of kp_turns_of b_turns_of .nil pass0 (pa_cons (pv 0) (pa_cons (pv 1) pa_nil)))))))), ?_⟩
  obtain ⟨row, held, rfl, h1, h2, h3, h4, k⟩ := h
  (generalize hst : L2.start _ _ = st0; simp only [L2.start, N_turns, List.map_cons, List.map_nil, List.length_cons, List.length_nil, Nat.reduceAdd, Nat.reduceSub, List.replicate_succ, List.replicate_zero, List.cons_append, List.nil_append, List.append_nil] at hst; subst hst)
  walk_at "go"
  rename_i H1 e1 H2 e2 p acc H3 hp e3 h3 hl3 r3
  refine k p acc _ ?_ (e1.trans (e2.trans e3)) h3 hl3 r3
  cases h : H p with
  | none => rfl
  | some o => rw [(e1.trans e2) _ _ h] at hp; cases hp
theorem use_turns {K : PySem.W.Frag} {row held : List Nat} {H : Hp} {Q : VK} {E : XK} (h1 : 1 ≤ row.length) (h2 : row.length ≤ 40) (h3 : ∀ c ∈ row, c ∈ abcS) (h4 : held.Sublist abcS) (k : ∀ p acc H', H p = none → Ex H H' → H' p = some (.lst acc) → acc.length ≤ 40000 → RpAll H' acc ((turnsM row held).map dPair) → Q (.ref p) H') : sp_turns K [Tx row, Tx held] H Q E := ⟨row, held, rfl, h1, h2, h3, h4, k⟩
local macro_rules | `(tactic| walk_at "st") => `(tactic| ((with_reducible refine use_turns ?h1 ?h2 ?h3 ?h4 ?hk); (case h1 => walk_at "sz"); (case h2 => walk_at "sz"); (case h3 => assumption); (case h4 => first | assumption | decide); intro p acc H2 hp e2 h2 hl2 r2))

abbrev N_is_number : List Str := ["thing", "low", "high"]
theorem sc_is_number : FnScope N_is_number ["thing", "low", "high"] (defScope s_is_number) := ⟨rfl, rfl, rfl, by decide +kernel, rfl, by decide +kernel, by decide +kernel⟩
def sp_is_number (K : PySem.W.Frag) : Sp := fun vs H Q _ => ∃ (i lo hi : Int), vs = [.int i, .int lo, .int hi] ∧ Q (.bl (decide (lo ≤ i ∧ i ≤ hi))) H

theorem ok_is_number {P : Program} {w : World} {K : PySem.W.Frag} {mg : Str → Option Value} {base : Heap} (T : Txt K mg) : Has P w K mg base CX0 1 "is_number" ["thing", "low", "high"] (sp_is_number K) := by
  obtain ⟨f, fd, g, F⟩ := T.f_is_number
  refine ⟨f, fd, g, F.kp, F.bindsN (fun _ _ _ _ _ _ us hl => match us, hl with | [_, _, _], _ => rfl), F.ok sc_is_number (fun vs H Q E h => ?_) (fun cdv A outer s H vs Q E hr h => ?_)⟩
  · repeat (first | (obtain ⟨e, _⟩ := h; exact congrArg List.length e) | (obtain ⟨_, h⟩ := h))
  have hu64 : (A.deeper (envOfC "is_number" (defScope s_is_number) s.heap.objs.size f cdv)).units + 64 < cLine := hr.units
  refine ⟨_, PSs.nox ((pss_one (ps_ret (pe_cut (pe_and (pe_callB call_isU (by rfl) T.z_isinstance (by decide +kernel) (pa_cons (pv 0) (pa_cons (pe_bltn (v := .ty "int") rfl T.z_int (by decide +kernel) rfl) pa_nil))) (pe_and (pe_not (pe_callB call_isU (by rfl) T.z_isinstance (by decide +kernel) (pa_cons (pv 0) (pa_cons (pe_bltn (v := .ty "bool") rfl T.z_bool (by decide +kernel) rfl) pa_nil)))) (pe_one (pe_chain op_leU op_leU (pv 1) (pv 0) (pv 2))))))))), ?_⟩
  obtain ⟨i, lo, hi, rfl, k⟩ := h
  (generalize hst : L2.start _ _ = st0; simp only [L2.start, N_is_number, List.map_cons, List.map_nil, List.length_cons, List.length_nil, Nat.reduceAdd, Nat.reduceSub, List.replicate_succ, List.replicate_zero, List.cons_append, List.nil_append, List.append_nil] at hst; subst hst)
  walk_at "go"
  refine w_cutV (.bl (decide (lo ≤ i ∧ i ≤ hi))) ?_ k
  walk_at "go"
  by_cases c1 : lo ≤ i
  · rw [decide_eq_true c1]
    walk_at "go"
    exact ⟨by simp [c1], rfl⟩
  · rw [decide_eq_false c1]
    walk_at "go"
    exact ⟨by simp [c1], rfl⟩
theorem use_is_number {K : PySem.W.Frag} {i lo hi : Int} {H : Hp} {Q : VK} {E : XK} (k : Q (.bl (decide (lo ≤ i ∧ i ≤ hi))) H) : sp_is_number K [.int i, .int lo, .int hi] H Q E := ⟨i, lo, hi, rfl, k⟩
local macro_rules | `(tactic| walk_at "st") => `(tactic| (with_reducible refine use_is_number ?_))

abbrev N_why_not : List Str := ["row", "pins", "turn", "place"]
theorem sc_why_not : FnScope N_why_not ["row", "pins", "turn"] (defScope s_why_not) := ⟨rfl, rfl, rfl, by decide +kernel, rfl, by decide +kernel, by decide +kernel⟩
def sp_why_not (K : PySem.W.Frag) : Sp := fun vs H Q _ => ∃ (row held : List Nat) (T : Addr) (h t : Int), vs = [Tx row, Tx held, .ref T] ∧ H T = some (.tup [.int h, .int t]) ∧ row.length ≤ 1000 ∧ ∀ H', Ex H H' → Q (Tx (whyM row held h t)) H'

theorem ok_why_not {P : Program} {w : World} {K : PySem.W.Frag} {mg : Str → Option Value} {base : Heap} (T : Txt K mg) : Has P w K mg base CX0 2 "why_not" ["row", "pins", "turn"] (sp_why_not K) := by
  obtain ⟨f, fd, g, F⟩ := T.f_why_not
  obtain ⟨f_is_number, fd_is_number, g_is_number, kp_is_number, b_is_number, G_is_number⟩ := (ok_is_number (P := P) (w := w) (K := K) (mg := mg) (base := base) T).ex
  refine ⟨f, fd, g, F.kp, F.bindsN (fun _ _ _ _ _ _ us hl => match us, hl with | [_, _, _], _ => rfl), F.ok sc_why_not (fun vs H Q E h => ?_) (fun cdv A outer s H vs Q E hr h => ?_)⟩
  · repeat (first | (obtain ⟨e, _⟩ := h; exact congrArg List.length e) | (obtain ⟨_, h⟩ := h))
  have hu64 : (A.deeper (envOfC "why_not" (defScope s_why_not) s.heap.objs.size f cdv)).units + 64 < cLine := hr.units
  refine ⟨_, PSs.nox ((pss_cons (ps_if (pt_cut (PW.pt (pw_or (pt_not (pt_val (pe_callB call_isU (by rfl) T.z_isinstance (by decide +kernel) (pa_cons (pv 2) (pa_cons (pe_bltn (v := .ty "tuple") rfl T.z_tuple (by decide +kernel) rfl) pa_nil))))) (pw_or1 (pt_cmpR (op_neK (K := K) rfl hu64) (pe_callB (call_lenK (K := K) rfl) (by rfl) T.z_len PySem.boot_len (pa_cons (pv 2) pa_nil)) pe_int (nomark _)))))) (pss_one (ps_ret (pe_strL (l := [112, 108, 97, 99, 101]) (by decide +kernel)))) pss_nil)
      (pss_cons (ps_if (pt_cut (PW.pt (pw_or (pt_not (pt_val (pe_callB (call_allK (K := K) rfl rfl) (by rfl) T.z_all (by decide +kernel) (pa_cons (pe_lc (own := [("place", 3)]) rfl sc_why_not.nd (pi_anyK (K := K) rfl (pv 2)) (blkOk_by (own := [("place", 3)]) (N := N_why_not) (sc := defScope s_why_not) (by decide +kernel)) (fun _ _ _ _ _ => (pg_name (i := 3) sc_why_not.nd rfl (Or.inl rfl))) (fun _ _ _ _ _ => (pts_cut pts_nil)) (fun _ _ _ _ _ => (pe_cut (pe_call G_is_number (hr.mono (by decide)) rfl g_is_number kp_is_number b_is_number .nil pass0 (pa_cons (pv 3) (pa_cons pe_int (pa_cons (pe_op op_sub (pe_callB (call_lenK (K := K) rfl) (by rfl) T.z_len PySem.boot_len (pa_cons (pv 0) pa_nil)) pe_int) pa_nil))))))) pa_nil)))) (pw_or1 (pt_cmpR op_geU (pe_ix (ix_K (K := K) rfl) (pv 2) pe_int (fun _ _ => rfl)) (pe_ix (ix_K (K := K) rfl) (pv 2) pe_int (fun _ _ => rfl)) (nomark _)))))) (pss_one (ps_ret (pe_strL (l := [112, 108, 97, 99, 101]) (by decide +kernel)))) pss_nil)
      (pss_cons (ps_if (pt_cmpR (op_neK (K := K) rfl hu64) (pe_ix (ix_K (K := K) rfl) (pv 0) (pe_ix (ix_K (K := K) rfl) (pv 2) pe_int (fun _ _ => rfl)) (fun _ _ => rfl)) (pe_ix (ix_K (K := K) rfl) (pv 0) (pe_ix (ix_K (K := K) rfl) (pv 2) pe_int (fun _ _ => rfl)) (fun _ _ => rfl)) (nomark _)) (pss_one (ps_ret (pe_strL (l := [117, 110, 108, 105, 107, 101]) (by decide +kernel)))) pss_nil)
      (pss_one (ps_ret (pe_cut (pe_ifExp (pt_cmpR (op_inK (K := K) rfl) (pe_ix (ix_K (K := K) rfl) (pv 0) (pe_ix (ix_K (K := K) rfl) (pv 2) pe_int (fun _ _ => rfl)) (fun _ _ => rfl)) (pv 1) (by rfl)) (pe_strL (l := [112, 105, 110, 110, 101, 100]) (by decide +kernel)) (pe_strL (l := []) (by decide +kernel)))))))))), ?_⟩
  obtain ⟨row, held, T, h, t, rfl, hT, hl, k⟩ := h
  (generalize hst : L2.start _ _ = st0; simp only [L2.start, N_why_not, List.map_cons, List.map_nil, List.length_cons, List.length_nil, Nat.reduceAdd, Nat.reduceSub, List.replicate_succ, List.replicate_zero, List.cons_append, List.nil_append, List.append_nil] at hst; subst hst)
  walk_at "go"
  refine w_cutB false ?_ ?_
  · walk_at "go"
    exact ⟨rfl, rfl⟩
  walk_at "go"
  refine w_cutT (fun b H' => b = !decide (0 ≤ h ∧ h < t ∧ t < (row.length : Int)) ∧ Ex H H') ?_ ?_
  · walk_at "go"
    refine lcX_bl walk_tup (by simp) (fun i => decide (0 ≤ [h, t].getD i 0 ∧ [h, t].getD i 0 ≤ (row.length : Int) - 1)) (fun H1 e => SqT.of (e _ _ hT)) (fun v => rfl) ?_ ?_
    · rintro i x H1 H2 Q' hi e ⟨rfl, hx⟩ kk
      have hx' : x = .int ([h, t].getD i 0) := by
        match i, hx with
        | 0, hx => cases hx; rfl
        | 1, hx => cases hx; rfl
      subst hx'
      walk_at "go"
      exact kk _ (Ex.refl _)
    · intro p H2 hp e h2
      walk_at "go"
      refine w_all h2 ?_
      have eb : ((List.range [V.int h, V.int t].length).map fun i => decide (0 ≤ [h, t].getD i 0 ∧ [h, t].getD i 0 ≤ (row.length : Int) - 1)).all id = decide (0 ≤ h ∧ h < (row.length : Int) ∧ 0 ≤ t ∧ t < (row.length : Int)) := by
        show (decide (0 ≤ h ∧ h ≤ (row.length : Int) - 1) && (decide (0 ≤ t ∧ t ≤ (row.length : Int) - 1) && true)) = _
        rw [Bool.and_true, ← Bool.decide_and]
        refine decide_eq_decide.mpr ?_
        omega
      rw [eb]
      walk_at "go"
      by_cases c : 0 ≤ h ∧ h < (row.length : Int) ∧ 0 ≤ t ∧ t < (row.length : Int)
      · rw [decide_eq_true c]
        walk_at "go"
        refine ⟨?_, e⟩
        by_cases q : t ≤ h
        · rw [decide_eq_true q, decide_eq_false (by omega)]; rfl
        · rw [decide_eq_false q, decide_eq_true (by omega)]; rfl
      · rw [decide_eq_false c, decide_eq_false (by omega)]
        walk_at "go"
        exact ⟨rfl, e⟩
  · rintro b H1 ⟨rfl, e1⟩
    by_cases c : 0 ≤ h ∧ h < t ∧ t < (row.length : Int)
    · rw [decide_eq_true c]
      obtain ⟨c0, c1, c2⟩ := c
      have hh : row[h.toNat]? = some (row.getD h.toNat 0) := by
        rw [List.getD_eq_getElem?_getD, List.getElem?_eq_getElem (by omega)]; rfl
      have ht : row[t.toNat]? = some (row.getD t.toNat 0) := by
        rw [List.getD_eq_getElem?_getD, List.getElem?_eq_getElem (by omega)]; rfl
      unfold whyM at k
      rw [if_pos ⟨c0, c1, c2⟩] at k
      walk_at "go"
      rename_i d1 q1 d2 q2
      rw [hh] at q1
      rw [ht] at q2
      cases q1
      cases q2
      by_cases c : row.getD h.toNat 0 = row.getD t.toNat 0
      · rw [decide_eq_true c]
        rw [if_neg (fun q => q c)] at k
        walk_at "go"
        refine w_cutV (Tx (if row.getD h.toNat 0 ∈ held then [112, 105, 110, 110, 101, 100] else [])) ?_ (k _ e1)
        walk_at "go"
        rename_i d1 q1
        rw [hh] at q1
        cases q1
        by_cases c' : row.getD h.toNat 0 ∈ held
        · rw [decide_eq_true c', if_pos c']
          walk_at "go"
          exact ⟨rfl, rfl⟩
        · rw [decide_eq_false c', if_neg c']
          walk_at "go"
          exact ⟨rfl, rfl⟩
      · rw [decide_eq_false c]
        rw [if_pos c] at k
        walk_at "go"
        exact k _ e1
    · rw [decide_eq_false c]
      walk_at "go"
      have : whyM row held h t = [112, 108, 97, 99, 101] := by unfold whyM; rw [if_neg c]
      rw [this] at k
      exact k _ e1
theorem use_why_not {K : PySem.W.Frag} {row held : List Nat} {T : Addr} {h t : Int} {H : Hp} {Q : VK} {E : XK} (hT : H T = some (.tup [.int h, .int t])) (hl : row.length ≤ 1000) (k : ∀ H', Ex H H' → Q (Tx (whyM row held h t)) H') : sp_why_not K [Tx row, Tx held, .ref T] H Q E := ⟨row, held, T, h, t, rfl, hT, hl, k⟩
local macro_rules | `(tactic| walk_at "st") => `(tactic| ((with_reducible refine use_why_not (h := ?h) (t := ?t) ?hT ?hl ?hk); (case hT => walk_at "lift"); (case hl => walk_at "sz"); intro H2 e2))

abbrev N_behind : List Str := ["row", "turn", "here", "there"]
theorem sc_behind : FnScope N_behind ["row", "turn"] (defScope s_behind) := ⟨rfl, rfl, rfl, by decide +kernel, rfl, by decide +kernel, by decide +kernel⟩
def sp_behind (K : PySem.W.Frag) : Sp := fun vs H Q _ => ∃ (row : List Nat) (T : Addr) (h t : Nat), vs = [Tx row, .ref T] ∧ H T = some (.tup [.int h, .int t]) ∧ h ≤ t ∧ t < row.length ∧ row.length ≤ 1000 ∧ Q (Tx (turnM row h t)) H

theorem ok_behind {P : Program} {w : World} {K : PySem.W.Frag} {mg : Str → Option Value} {base : Heap} (T : Txt K mg) : Has P w K mg base CX0 1 "behind" ["row", "turn"] (sp_behind K) := by
  obtain ⟨f, fd, g, F⟩ := T.f_behind
  refine ⟨f, fd, g, F.kp, F.bindsN (fun _ _ _ _ _ _ us hl => match us, hl with | [_, _], _ => rfl), F.ok sc_behind (fun vs H Q E h => ?_) (fun cdv A outer s H vs Q E hr h => ?_)⟩
  · repeat (first | (obtain ⟨e, _⟩ := h; exact congrArg List.length e) | (obtain ⟨_, h⟩ := h))
  have hu64 : (A.deeper (envOfC "behind" (defScope s_behind) s.heap.objs.size f cdv)).units + 64 < cLine := hr.units
  refine ⟨_, PSs.nox ((pss_cons (ps_asg (pv 1) (pg_tupK (K := K) (n := 2) rfl (by rfl) (pgs_cons (pg_name (i := 2) sc_behind.nd rfl (Or.inl rfl)) (pgs_cons (pg_name (i := 3) sc_behind.nd rfl (Or.inl rfl)) pgs_nil))))
      (pss_one (ps_ret (pe_op op_addU (pe_op op_addU (pe_slice sl_U (pv 0) po_none (po_some (pv 2))) (pe_revX (pe_slice sl_U (pv 0) (po_some (pv 2)) (po_some (pe_op op_addU (pv 3) pe_int))))) (pe_slice sl_U (pv 0) (po_some (pe_op op_addU (pv 3) pe_int)) po_none)))))), ?_⟩
  obtain ⟨row, T, h, t, rfl, hT, hh, ht, hl, k⟩ := h
  (generalize hst : L2.start _ _ = st0; simp only [L2.start, N_behind, List.map_cons, List.map_nil, List.length_cons, List.length_nil, Nat.reduceAdd, Nat.reduceSub, List.replicate_succ, List.replicate_zero, List.cons_append, List.nil_append, List.append_nil] at hst; subst hst)
  have l1 := cutL_length row none (some (h : Int))
  have l2 := cutL_length row (some ((t : Int) + 1)) none
  have l3 := cutL_length row (some (h : Int)) (some ((t : Int) + 1))
  walk_at "go"
  have eq : cutL row none (some (h : Int)) ++ (cutL row (some (h : Int)) (some ((t : Int) + 1))).reverse ++ cutL row (some ((t : Int) + 1)) none = turnM row h t := by
    rw [cutL_to _ (by omega), cutL_from _ (by omega), cutL_both _ (by omega) (by omega)]
    unfold turnM
    have : ((t : Int) + 1).toNat = t + 1 := by omega
    rw [this]; rfl
  rw [eq]
  exact k
theorem use_behind {K : PySem.W.Frag} {row : List Nat} {T : Addr} {h t : Nat} {H : Hp} {Q : VK} {E : XK} (hT : H T = some (.tup [.int h, .int t])) (hh : h ≤ t) (ht : t < row.length) (hl : row.length ≤ 1000) (k : Q (Tx (turnM row h t)) H) : sp_behind K [Tx row, .ref T] H Q E := ⟨row, T, h, t, rfl, hT, hh, ht, hl, k⟩
local macro_rules | `(tactic| walk_at "st") => `(tactic| ((with_reducible refine use_behind (h := ?h) (t := ?t) ?hT ?hh ?ht ?hl ?hk); (case hT => walk_at "lift"); (case hh => walk_at "sz"); (case ht => walk_at "sz"); (case hl => walk_at "sz")))

abbrev N_turned : List Str := ["row", "here", "there", "pins", "why"]
theorem sc_turned : FnScope N_turned ["row", "here", "there", "pins"] (defScope s_turned) := ⟨rfl, rfl, rfl, by decide +kernel, rfl, by decide +kernel, by decide +kernel⟩
def sp_turned (K : PySem.W.Frag) : Sp := fun vs H Q _ => ∃ (row held : List Nat) (h t : Nat), vs = [Tx row, .int h, .int t, Tx held] ∧ 1 ≤ row.length ∧ row.length ≤ 40 ∧ (∀ c ∈ row, c ∈ abcS) ∧ held.Sublist abcS ∧ whyM row held h t = [] ∧ ∀ H', Ex H H' → Q (Tx (turnM row h t)) H'

theorem ok_turned {P : Program} {w : World} {K : PySem.W.Frag} {mg : Str → Option Value} {base : Heap} (T : Txt K mg) : HasK P w K mg base CX0 3 "turned" ["row", "here", "there", "pins"] 3 ["pins"] [.str (S [])] (sp_turned K) := by
  obtain ⟨f, fd, g, F⟩ := T.f_turned
  obtain ⟨f_behind, fd_behind, g_behind, kp_behind, b_behind, G_behind⟩ := (ok_behind (P := P) (w := w) (K := K) (mg := mg) (base := base) T).ex
  obtain ⟨f_need_pins, fd_need_pins, g_need_pins, kp_need_pins, b_need_pins, G_need_pins⟩ := (ok_need_pins (P := P) (w := w) (K := K) (mg := mg) (base := base) T).ex
  obtain ⟨f_need_row, fd_need_row, g_need_row, kp_need_row, b_need_row, G_need_row⟩ := (ok_need_row (P := P) (w := w) (K := K) (mg := mg) (base := base) T).ex
  obtain ⟨f_why_not, fd_why_not, g_why_not, kp_why_not, b_why_not, G_why_not⟩ := (ok_why_not (P := P) (w := w) (K := K) (mg := mg) (base := base) T).ex
  have KB := kbn (ps := ["row", "here", "there", "pins"]) F 3 ["pins"] (fun _ _ _ _ _ _ us ws h1 h2 => match us, ws, h1, h2 with | [_, _, _], [_], _, _ => rfl)
  obtain ⟨ds, VD, BD⟩ := F.binds0 (ps := ["row", "here", "there", "pins"]) 3 (by simp) rfl (fun _ _ _ _ _ _ us ks h1 h2 => match us, ks, h1, h2 with | [_, _, _], [_], _, _ => ⟨_, _, _, _, _, _, rfl, rfl, rfl⟩)
  refine ⟨f, fd, ds, g, F.kp, KB, .inr ⟨VD, BD⟩, F.ok sc_turned (fun vs H Q E h => ?_) (fun cdv A outer s H vs Q E hr h => ?_)⟩
  · repeat (first | (obtain ⟨e, _⟩ := h; exact congrArg List.length e) | (obtain ⟨_, h⟩ := h))
  have hu64 : (A.deeper (envOfC "turned" (defScope s_turned) s.heap.objs.size f cdv)).units + 64 < cLine := hr.units
  refine ⟨_, PSs.nox ((pss_cons (ps_expr (pe_call G_need_row (hr.mono (by decide)) rfl g_need_row kp_need_row b_need_row .nil pass0 (pa_cons (pv 0) pa_nil)))
      (pss_cons (ps_expr (pe_call G_need_pins (hr.mono (by decide)) rfl g_need_pins kp_need_pins b_need_pins .nil pass0 (pa_cons (pv 3) pa_nil)))
      (pss_cons (ps_set (i := 4) sc_turned.nd rfl (Or.inl rfl) (pe_call G_why_not (hr.mono (by decide)) rfl g_why_not kp_why_not b_why_not .nil pass0 (pa_cons (pv 0) (pa_cons (pv 3) (pa_cons (pe_tupX (pa_cons (pv 1) (pa_cons (pv 2) pa_nil))) pa_nil)))))
      (pss_cons (ps_if (pt_cmpR (op_neK (K := K) rfl hu64) (pv 4) (pe_strL (l := []) (by decide +kernel)) (nomark _)) (pss_one ps_never) pss_nil)
      (pss_one (ps_ret (pe_call G_behind (hr.mono (by decide)) rfl g_behind kp_behind b_behind .nil pass0 (pa_cons (pv 0) (pa_cons (pe_tupX (pa_cons (pv 1) (pa_cons (pv 2) pa_nil))) pa_nil)))))))))), ?_⟩
  obtain ⟨row, held, h, t, rfl, h1, h2, h3, h4, h5, k⟩ := h
  (generalize hst : L2.start _ _ = st0; simp only [L2.start, N_turned, List.map_cons, List.map_nil, List.length_cons, List.length_nil, Nat.reduceAdd, Nat.reduceSub, List.replicate_succ, List.replicate_zero, List.cons_append, List.nil_append, List.append_nil] at hst; subst hst)
  walk_at "go"
  rw [h5]
  walk_at "ff"
  have hw : h ≤ t ∧ t < row.length := by
    unfold whyM at h5
    split at h5
    · omega
    · cases h5
  obtain ⟨hw1, hw2⟩ := hw
  walk_at "go"
  rename_i e1 _ e2 _ _ _ e3 h4 _ e4 _ _ _ e5 _
  exact k _ ((e1.trans e2).trans (e3.trans (e4.trans e5)))
theorem use_turned {K : PySem.W.Frag} {row held : List Nat} {h t : Nat} {H : Hp} {Q : VK} {E : XK} (h1 : 1 ≤ row.length) (h2 : row.length ≤ 40) (h3 : ∀ c ∈ row, c ∈ abcS) (h4 : held.Sublist abcS) (h5 : whyM row held h t = []) (k : ∀ H', Ex H H' → Q (Tx (turnM row h t)) H') : sp_turned K [Tx row, .int h, .int t, Tx held] H Q E := ⟨row, held, h, t, rfl, h1, h2, h3, h4, h5, k⟩
local macro_rules | `(tactic| walk_at "st") => `(tactic| ((with_reducible refine use_turned ?h1 ?h2 ?h3 ?h4 ?h5 ?hk); (case h1 => walk_at "sz"); (case h2 => walk_at "sz"); (case h3 => assumption); (case h4 => first | assumption | decide); (case h5 => assumption); intro H2 e2))

abbrev N_done : List Str := ["row", "some", "pins", "number", "turn", "why"]
theorem sc_done : FnScope N_done ["row", "some", "pins"] (defScope s_done) := ⟨rfl, rfl, rfl, by decide +kernel, rfl, by decide +kernel, by decide +kernel⟩
def sp_done (K : PySem.W.Frag) : Sp := fun vs H Q _ => ∃ (row held : List Nat) (p : Addr) (xs : List V) (ts : List (Nat × Nat)), vs = [Tx row, .ref p, Tx held] ∧ H p = some (.lst xs) ∧ RpAll H xs (ts.map dPair) ∧ 1 ≤ row.length ∧ row.length ≤ 40 ∧ (∀ c ∈ row, c ∈ abcS) ∧ held.Sublist abcS ∧ goesM held row ts ∧
  ∀ H', Ex H H' → Q (Tx (runM row ts)) H'

theorem ok_done {P : Program} {w : World} {K : PySem.W.Frag} {mg : Str → Option Value} {base : Heap} (T : Txt K mg) : HasK P w K mg base CX0 3 "done" ["row", "some", "pins"] 2 ["pins"] [.str (S [])] (sp_done K) := by
  obtain ⟨f, fd, g, F⟩ := T.f_done
  obtain ⟨f_behind, fd_behind, g_behind, kp_behind, b_behind, G_behind⟩ := (ok_behind (P := P) (w := w) (K := K) (mg := mg) (base := base) T).ex
  obtain ⟨f_need_pins, fd_need_pins, g_need_pins, kp_need_pins, b_need_pins, G_need_pins⟩ := (ok_need_pins (P := P) (w := w) (K := K) (mg := mg) (base := base) T).ex
  obtain ⟨f_need_row, fd_need_row, g_need_row, kp_need_row, b_need_row, G_need_row⟩ := (ok_need_row (P := P) (w := w) (K := K) (mg := mg) (base := base) T).ex
  obtain ⟨f_why_not, fd_why_not, g_why_not, kp_why_not, b_why_not, G_why_not⟩ := (ok_why_not (P := P) (w := w) (K := K) (mg := mg) (base := base) T).ex
  have KB := kbn (ps := ["row", "some", "pins"]) F 2 ["pins"] (fun _ _ _ _ _ _ us ws h1 h2 => match us, ws, h1, h2 with | [_, _], [_], _, _ => rfl)
  obtain ⟨ds, VD, BD⟩ := F.binds0 (ps := ["row", "some", "pins"]) 2 (by simp) rfl (fun _ _ _ _ _ _ us ks h1 h2 => match us, ks, h1, h2 with | [_, _], [_], _, _ => ⟨_, _, _, _, _, _, rfl, rfl, rfl⟩)
  refine ⟨f, fd, ds, g, F.kp, KB, .inr ⟨VD, BD⟩, F.ok sc_done (fun vs H Q E h => ?_) (fun cdv A outer s H vs Q E hr h => ?_)⟩
  · repeat (first | (obtain ⟨e, _⟩ := h; exact congrArg List.length e) | (obtain ⟨_, h⟩ := h))
  have hu64 : (A.deeper (envOfC "done" (defScope s_done) s.heap.objs.size f cdv)).units + 64 < cLine := hr.units
  refine ⟨_, PSs.nox ((pss_cons (ps_expr (pe_call G_need_row (hr.mono (by decide)) rfl g_need_row kp_need_row b_need_row .nil pass0 (pa_cons (pv 0) pa_nil)))
      (pss_cons (ps_expr (pe_call G_need_pins (hr.mono (by decide)) rfl g_need_pins kp_need_pins b_need_pins .nil pass0 (pa_cons (pv 2) pa_nil)))
      (pss_cons (ps_for PassesOwn.never rfl (pi_enumK (K := K) rfl (by rfl) T.z_enumerate (pa_cons (pv 1) pa_nil)) (pg_tupK (K := K) (n := 2) rfl (by rfl) (pgs_cons (pg_name (i := 3) sc_done.nd rfl (Or.inl rfl)) (pgs_cons (pg_name (i := 4) sc_done.nd rfl (Or.inl rfl)) pgs_nil))) (pss_cons (ps_set (i := 5) sc_done.nd rfl (Or.inl rfl) (pe_call G_why_not (hr.mono (by decide)) rfl g_why_not kp_why_not b_why_not .nil pass0 (pa_cons (pv 0) (pa_cons (pv 2) (pa_cons (pv 4) pa_nil)))))
      (pss_cons (ps_if (pt_cmpR (op_neK (K := K) rfl hu64) (pv 5) (pe_strL (l := []) (by decide +kernel)) (nomark _)) (pss_one ps_never) pss_nil)
      (pss_one (ps_set (i := 0) sc_done.nd rfl (Or.inl rfl) (pe_call G_behind (hr.mono (by decide)) rfl g_behind kp_behind b_behind .nil pass0 (pa_cons (pv 0) (pa_cons (pv 4) pa_nil))))))))
      (pss_one (ps_ret (pv 0))))))), ?_⟩
  obtain ⟨row, held, p, xs, ts, rfl, hp, hr, h1, h2, h3, h4, h5, k⟩ := h
  (generalize hst : L2.start _ _ = st0; simp only [L2.start, N_done, List.map_cons, List.map_nil, List.length_cons, List.length_nil, Nat.reduceAdd, Nat.reduceSub, List.replicate_succ, List.replicate_zero, List.cons_append, List.nil_append, List.append_nil] at hst; subst hst)
  have hlx : xs.length = ts.length := by rw [hr.length, List.length_map]
  walk_at "go"
  rename_i H1 e1 H2 e2
  refine forX_it walk_enumL (fun i σ H' => ∃ x y z : Option V, σ = [some (Tx (runM row (ts.take i))), some (.ref p), some (Tx held), x, y, z] ∧ Ex H H' ∧ (runM row (ts.take i)).length = row.length ∧ ∀ c ∈ runM row (ts.take i), c ∈ abcS) ⟨none, none, none, rfl, e1.trans e2, rfl, h3⟩ (fun i σ H' _ ⟨_, _, _, _, e, _⟩ => SqL.of (e _ _ hp)) ?_ ?_
  · rintro i v σ H1 H2 hi ⟨x, y, z, rfl, e, hl, hm⟩ ⟨T, vs, rfl, hT, e3, hT3, v, hv, rfl⟩
    refine g2_ok hT3 ?_
    obtain ⟨q, hq⟩ : ∃ q, ts[i]? = some q := ⟨ts[i], by simp⟩
    obtain ⟨d, hd, rd⟩ := hr.get' hv
    rw [List.getElem?_map, hq] at hd
    cases hd
    obtain ⟨U, rfl, hU⟩ := rp_pair_inv (rd.ex (e.trans e3))
    have hw := goesM_more h5 hq
    obtain ⟨w1, w2⟩ := whyM_ok hw
    walk_at "go"
    rename_i H4 e4
    rw [hw]
    walk_at "ff"
    walk_at "go"
    rw [← runM_more hq]
    refine ⟨_, _, _, rfl, e.trans (e3.trans e4), ?_, ?_⟩
    · rw [runM_more hq, turnM_len (by omega) w2, hl]
    · intro c hc
      rw [runM_more hq] at hc
      exact hm c (turnM_mem (by omega) hc)
  · rintro σ H1 ⟨x, y, z, rfl, e, _, _⟩
    walk_at "go"
    rw [hlx, List.take_length]
    exact k _ e
theorem use_done {K : PySem.W.Frag} {row held : List Nat} {p : Addr} {xs : List V} {ts : List (Nat × Nat)} {H : Hp} {Q : VK} {E : XK} (hp : H p = some (.lst xs)) (hr : RpAll H xs (ts.map dPair)) (h1 : 1 ≤ row.length) (h2 : row.length ≤ 40) (h3 : ∀ c ∈ row, c ∈ abcS) (h4 : held.Sublist abcS) (h5 : goesM held row ts) (k : ∀ H', Ex H H' → Q (Tx (runM row ts)) H') : sp_done K [Tx row, .ref p, Tx held] H Q E := ⟨row, held, p, xs, ts, rfl, hp, hr, h1, h2, h3, h4, h5, k⟩

abbrev N_law : List Str := ["_law_script", "_law_d", "_law_first", "_law_held", "_law_row_here", "_law_some", "_law_turn", "_law_told", "_law_here", "_law_there", "_law_next_one", "_law_last", "_law_mirrored"]
theorem sc_law : FnScope N_law ["_law_script"] (defScope s_law) := ⟨rfl, rfl, rfl, by decide +kernel, rfl, by decide +kernel, by decide +kernel⟩
def sp_law (K : PySem.W.Frag) : Sp := fun vs H Q _ => ∃ (a : Addr) (ns : List Int), vs = [.ref a] ∧ SqL K H a (ns.map V.int) ∧ ns.length ≤ 63 ∧ ∀ H', Q (.bl true) H'

theorem ok_law {P : Program} {w : World} {K : PySem.W.Frag} {mg : Str → Option Value} {base : Heap} {f : Addr} {fd : FuncData} (T : Txt K mg) (F : FunD K "law" "law" (defArgs s_law) (defBody s_law) (defScope s_law) [] [] f fd) : FnOk P w K mg base CX0 4 f fd ["_law_script"] (sp_law K) := by
  obtain ⟨f__law_dice, fd__law_dice, g__law_dice, kp__law_dice, b__law_dice, G__law_dice⟩ := (ok__law_dice (P := P) (w := w) (K := K) (mg := mg) (base := base) T).ex
  obtain ⟨f__law_off, fd__law_off, g__law_off, kp__law_off, b__law_off, G__law_off⟩ := (ok__law_off (P := P) (w := w) (K := K) (mg := mg) (base := base) T).ex
  obtain ⟨f__law_pins, fd__law_pins, g__law_pins, kp__law_pins, b__law_pins, G__law_pins⟩ := (ok__law_pins (P := P) (w := w) (K := K) (mg := mg) (base := base) T).ex
  obtain ⟨f__law_row, fd__law_row, g__law_row, kp__law_row, b__law_row, G__law_row⟩ := (ok__law_row (P := P) (w := w) (K := K) (mg := mg) (base := base) T).ex
  obtain ⟨f__law_signs, fd__law_signs, g__law_signs, kp__law_signs, b__law_signs, G__law_signs⟩ := (ok__law_signs (P := P) (w := w) (K := K) (mg := mg) (base := base) T).ex
  obtain ⟨f_done, fd_done, ds_done, g_done, kp_done, kb_done, vb_done, G_done⟩ := (ok_done (P := P) (w := w) (K := K) (mg := mg) (base := base) T).ex
  obtain ⟨vd_done, bd_done⟩ := vb_done.resolve_left (by simp)
  obtain ⟨f_turned, fd_turned, ds_turned, g_turned, kp_turned, kb_turned, vb_turned, G_turned⟩ := (ok_turned (P := P) (w := w) (K := K) (mg := mg) (base := base) T).ex
  obtain ⟨vd_turned, bd_turned⟩ := vb_turned.resolve_left (by simp)
  obtain ⟨f_turns, fd_turns, ds_turns, g_turns, kp_turns, kb_turns, vb_turns, G_turns⟩ := (ok_turns (P := P) (w := w) (K := K) (mg := mg) (base := base) T).ex
  obtain ⟨vd_turns, bd_turns⟩ := vb_turns.resolve_left (by simp)
  refine F.ok sc_law (fun vs H Q E h => ?_) (fun cdv A outer s H vs Q E hr h => ?_)
  · repeat (first | (obtain ⟨e, _⟩ := h; exact congrArg List.length e) | (obtain ⟨_, h⟩ := h))
  have hu64 : (A.deeper (envOfC "law" (defScope s_law) s.heap.objs.size f cdv)).units + 64 < cLine := hr.units
  refine ⟨_, PSs.nox ((pss_cons (ps_set (i := 1) sc_law.nd rfl (Or.inl rfl) (pe_call G__law_dice (hr.mono (by decide)) rfl g__law_dice kp__law_dice b__law_dice .nil pass0 (pa_cons (pv 0) (pa_cons pe_int pa_nil))))
      (pss_cons (ps_set (i := 2) sc_law.nd rfl (Or.inl rfl) (pe_call G__law_row (hr.mono (by decide)) rfl g__law_row kp__law_row b__law_row .nil pass0 (pa_cons (pv 1) (pa_cons (pe_call G__law_signs (hr.mono (by decide)) rfl g__law_signs kp__law_signs b__law_signs .nil pass0 (pa_cons (pv 1) pa_nil)) (pa_cons pe_int pa_nil)))))
      (pss_cons (ps_set (i := 3) sc_law.nd rfl (Or.inl rfl) (pe_call G__law_pins (hr.mono (by decide)) rfl g__law_pins kp__law_pins b__law_pins .nil pass0 (pa_cons (pv 1) (pa_cons (pv 2) pa_nil))))
      (pss_cons (ps_par (i := 4) (j := 5) (by rfl) sc_law.nd rfl rfl (by decide) rfl rfl (pa_cons (pv 2) (pa_cons (pe_lstX pa_nil) pa_nil)) (by rfl))
      (pss_cons (ps_for PassesOwn.never rfl (pi_range1 (by rfl) T.z_range (pa_cons pe_int pa_nil)) (pg_name (i := 6) sc_law.nd rfl (Or.inl rfl)) (pss_cons (ps_set (i := 7) sc_law.nd rfl (Or.inl rfl) (pe_callN G_turns (hr.mono (by decide)) rfl g_turns kp_turns kb_turns pass0 (pa_cons (pv 4) pa_nil) (pk_cons (pv 3) pk_nil)))
      (pss_one (ps_if (pt_cmpR (op_neK (K := K) rfl hu64) (pv 7) (pe_lstX pa_nil) (nomark _)) (pss_cons (ps_asg (pe_ix (ix_K (K := K) rfl) (pv 7) (pe_call G__law_off (hr.mono (by decide)) rfl g__law_off kp__law_off b__law_off .nil pass0 (pa_cons (pv 1) (pa_cons (pe_callB (call_lenK (K := K) rfl) (by rfl) T.z_len PySem.boot_len (pa_cons (pv 7) pa_nil)) pa_nil))) (fun _ _ => rfl)) (pg_tupK (K := K) (n := 2) rfl (by rfl) (pgs_cons (pg_name (i := 8) sc_law.nd rfl (Or.inl rfl)) (pgs_cons (pg_name (i := 9) sc_law.nd rfl (Or.inl rfl)) pgs_nil))))
      (pss_cons (ps_set (i := 10) sc_law.nd rfl (Or.inl rfl) (pe_callN G_turned (hr.mono (by decide)) rfl g_turned kp_turned kb_turned pass0 (pa_cons (pv 4) (pa_cons (pv 8) (pa_cons (pv 9) pa_nil))) (pk_cons (pv 3) pk_nil)))
      (pss_cons (ps_if (pt_cut (PW.pt (pw_or (pt_cmpR (op_neK (K := K) rfl hu64) (pe_callN G_turned (hr.mono (by decide)) rfl g_turned kp_turned kb_turned pass0 (pa_cons (pv 10) (pa_cons (pv 8) (pa_cons (pv 9) pa_nil))) (pk_cons (pv 3) pk_nil)) (pv 4) (nomark _)) (pw_or1 (pt_cmpR (op_neK (K := K) rfl hu64) (pe_callB (call_lenK (K := K) rfl) (by rfl) T.z_len PySem.boot_len (pa_cons (pv 10) pa_nil)) (pe_callB (call_lenK (K := K) rfl) (by rfl) T.z_len PySem.boot_len (pa_cons (pv 4) pa_nil)) (nomark _)))))) (pss_one (ps_ret pe_bl)) pss_nil)
      (pss_cons (ps_set (i := 4) sc_law.nd rfl (Or.inl rfl) (pv 10))
      (pss_one (ps_expr (pe_bmK (K := K) rfl PySem.F.plainAttrs_list PySem.F.slot_list_append PySem.F.type_list_append mt_append (pv 5) (pa_cons (pe_tupX (pa_cons (pv 8) (pa_cons (pv 9) pa_nil))) pa_nil)))))))) pss_nil))))
      (pss_cons (ps_set (i := 11) sc_law.nd rfl (Or.inr rfl) (pe_op op_sub (pe_callB (call_lenK (K := K) rfl) (by rfl) T.z_len PySem.boot_len (pa_cons (pv 4) pa_nil)) pe_int))
      (pss_cons (ps_setLc (i := 12) (own := [("_law_here", 8), ("_law_there", 9)]) rfl sc_law.nd rfl rfl (sw_true rfl rfl rfl (by decide +kernel)) (pi_anyK (K := K) rfl (pv 5)) (blkOk_by (own := [("_law_here", 8), ("_law_there", 9)]) (N := N_law) (sc := defScope s_law) (by decide +kernel)) (fun _ _ _ _ _ => (pg_tupK (K := K) (n := 2) rfl (by rfl) (pgs_cons (pg_name (i := 8) sc_law.nd rfl (Or.inl rfl)) (pgs_cons (pg_name (i := 9) sc_law.nd rfl (Or.inl rfl)) pgs_nil)))) (fun _ _ _ _ _ => (pts_cut pts_nil)) (fun _ _ _ _ _ => (pe_cut (pe_tupX (pa_cons (pe_op op_sub (pv 11) (pv 9)) (pa_cons (pe_op op_sub (pv 11) (pv 8)) pa_nil))))))
      (pss_one (ps_ret (pe_cut (pe_and (pe_cmpR (op_eqK (K := K) rfl hu64) (pe_callN G_done (hr.mono (by decide)) rfl g_done kp_done kb_done pass0 (pa_cons (pv 4) (pa_cons (pe_revLK (K := K) rfl (pv 5)) pa_nil)) (pk_cons (pv 3) pk_nil)) (pv 2) (nomark _)) (pe_one (pe_cmpR (op_eqK (K := K) rfl hu64) (pe_callN G_done (hr.mono (by decide)) rfl g_done kp_done kb_done pass0 (pa_cons (pe_revX (pv 2)) (pa_cons (pv 12) pa_nil)) (pk_cons (pv 3) pk_nil)) (pe_revX (pv 4)) (nomark _))))))))))))))), ?_⟩
  obtain ⟨a, ns, rfl, ha, hn, k⟩ := h
  (generalize hst : L2.start _ _ = st0; simp only [L2.start, N_law, List.map_cons, List.map_nil, List.length_cons, List.length_nil, Nat.reduceAdd, Nat.reduceSub, List.replicate_succ, List.replicate_zero, List.cons_append, List.nil_append, List.append_nil] at hst; subst hst)
  walk_at "go"
  rename_i dd H1 hd e1 h1 ss H2 e2 s1 s2 s3 s4 row r1 r2 r3 held H3 e3 hh p H4 hp e4 h4
  have r4 : ∀ c ∈ row, c ∈ abcS := fun c hc => s4 c (r3 c hc)
  have r2' : row.length ≤ 40 := by omega
  refine forX_range0 (fun i σ H' => ∃ (r : List Nat) (ts : List (Nat × Nat)) (x1 x2 x3 x4 x5 x6 x7 : Option V), σ = [some (.ref a), some (.ref dd), some (Tx row), some (Tx held), some (Tx r), some (.ref p), x1, x2, x3, x4, x5, x6, x7] ∧
    LcInv H3 p (ts.map dPair) i H' ∧ goesM held row ts ∧ runM row ts = r ∧ 1 ≤ r.length ∧ r.length ≤ 40 ∧ ∀ c ∈ r, c ∈ abcS)
    ⟨row, [], none, none, none, none, none, none, none, rfl, .start hp e4 h4, trivial, rfl, by omega, by omega, r4⟩ ?_ ?_
  · rintro i σ H5 hi ⟨r, ts, x1, x2, x3, x4, x5, x6, x7, rfl, inv, g, er, l1, l2, l3⟩
    obtain ⟨acc, i1, i2, i3, i4, i5, i6⟩ := inv
    have dd5 : H5 dd = some (DiceO dd) := i2 _ _ (e3 _ _ (e2 _ _ h1))
    walk_at "go"
    rename_i t tacc H6 ht e6 h6 hb6 r6 q H7 hq e7 h7
    refine w_neD (.lst (e7 _ _ h6) (r6.ex e7)) (.lst h7 .nil) (okD_list (n := 2) fun d hd => by
      obtain ⟨q, _, rfl⟩ := List.mem_map.mp hd
      exact okD_pair q).shaped rfl ?_
    rw [eqv_nil, List.isEmpty_map]
    walk_at "go"
    have hlen : tacc.length = (turnsM r held).length := by rw [r6.length, List.length_map]
    by_cases c : turnsM r held = []
    · rw [c]
      walk_at "ff"
      walk_at "go"
      exact ⟨_, _, _, _, _, _, _, _, _, rfl, ⟨acc, i1, i2.trans (e6.trans e7), e7 _ _ (e6 _ _ i3), (i4.ex e6).ex e7, i5, by omega⟩, g, er, l1, l2, l3⟩
    · have hpos : 0 < (turnsM r held).length := List.length_pos_iff.mpr c
      rw [List.isEmpty_eq_false_iff.mpr c]
      walk_at "go"
      rename_i n hn v hv
      obtain ⟨d, hd, rd⟩ := r6.get' hv
      obtain ⟨q, hq, rfl⟩ := List.mem_map.mp (List.mem_of_getElem? hd)
      obtain ⟨T, rfl, hT⟩ := rp_pair_inv (rd.ex e7)
      have hwhy := whyM_turns hq
      obtain ⟨w1, w2⟩ := whyM_ok hwhy
      have g' := goesM_snoc g (er.symm ▸ hwhy)
      have er' : runM row (ts ++ [q]) = turnM r q.1 q.2 := by rw [runM_snoc, er]
      walk_at "go"
      rename_i H8 e8
      have l1' : 1 ≤ (turnM r q.1 q.2).length := by rw [turnM_len (by omega) w2]; exact l1
      have l2' : (turnM r q.1 q.2).length ≤ 40 := by rw [turnM_len (by omega) w2]; exact l2
      have l3' : ∀ c ∈ turnM r q.1 q.2, c ∈ abcS := fun c hc => l3 c (turnM_mem (by omega) hc)
      refine w_cutT (fun b H' => b = false ∧ Ex H8 H') ?_ ?_
      · walk_at "go"
        refine use_turned l1' l2' l3' hh (whyM_twice hwhy) fun H9 e9 => ?_
        rw [turnM_twice (by omega) w2]
        walk_at "go"
        rw [decide_eq_true rfl]
        walk_at "go"
        refine ⟨?_, e9⟩
        rw [turnM_len (by omega) w2, decide_eq_true rfl]; rfl
      · rintro b H9 ⟨rfl, e9⟩
        have E : Ex H5 H9 := (e6.trans e7).trans (e8.trans e9)
        have i3' := E _ _ i3
        walk_at "go"
        rename_i U H10 hU e10 h10 H11 e11 h11
        refine ⟨_, ts ++ [q], _, _, _, _, _, _, _, rfl, ?_, g', er', l1', l2', l3'⟩
        rw [List.map_append]
        exact LcInv.app i1 (i2.trans (E.trans e10)) (e10 _ _ i3') (i4.ex (E.trans e10)) i5 i6 (rp_pair h10) rfl e11 h11
  · rintro σ H5 ⟨r, ts, x1, x2, x3, x4, x5, x6, x7, rfl, inv, g, er, l1, l2, l3⟩
    obtain ⟨acc, i1, i2, i3, i4, i5, i6⟩ := inv
    walk_at "go"
    have hra : acc.length = ts.length := by rw [i4.length, List.length_map]
    have hrl : r.length = row.length := by rw [← er, goesM_len g]
    refine lcX_pairs i3 i4 (by omega) (fun i => ((ts.take i).map (mirQ row.length)).map dPair) rfl (fun v v' => rfl) ?_ ?_
    · intro i q H6 hq e6
      have hw := goesM_more g hq
      obtain ⟨w1, w2, _⟩ := whyM_iff.mp hw
      have w3 : q.2 < row.length := by
        have : (runM row (ts.take i)).length = row.length := goesM_len (goesM_take g i)
        omega
      unfold LcStep
      walk_at "go"
      rename_i T H7 hT e7 h7
      refine ⟨e7, dPair (mirQ row.length q), rfl, rp_pair ?_, ?_⟩
      · rw [h7]
        have q1 : (r.length : Int) - 1 - (q.2 : Int) = ((row.length - 1 - q.2 : Nat) : Int) := by omega
        have q2 : (r.length : Int) - 1 - (q.1 : Int) = ((row.length - 1 - q.1 : Nat) : Int) := by omega
        rw [q1, q2]
      · show _ = _
        rw [take_more hq, List.map_append, List.map_append]; rfl
    · intro m H6 macc hm e6 h6 r6 hl6
      rw [List.take_length] at r6
      walk_at "go"
      refine w_cutE (fun v H' => v = .bl true) ?_ ?_
      · walk_at "go"
        rename_i p7 H7 hp7 e7 h7
        obtain ⟨b1, b2⟩ := back_ok g
        rw [er] at b1 b2
        refine use_done (ts := ts.reverse) h7 (by rw [List.map_reverse]; exact rpall_rev ((i4.ex e6).ex e7)) l1 l2 l3 hh b1 fun H8 e8 => ?_
        rw [b2]
        walk_at "go"
        rw [decide_eq_true rfl]
        walk_at "go"
        obtain ⟨m1, m2⟩ := mir_ok rfl g
        refine use_done (ts := ts.map (mirQ row.length)) (e8 _ _ (e7 _ _ h6)) ((r6.ex e7).ex e8) (by simp; omega) (by simp; omega) (fun c hc => r4 c (List.mem_reverse.mp hc)) hh m1 fun H9 e9 => ?_
        rw [m2, er]
        walk_at "go"
        rw [decide_eq_true rfl]
      · rintro v H' rfl
        walk_at "go"
        exact k _

def d__law_dice : He.DefD := ⟨("_law_dice", none), "_law_dice", "_law_dice", defArgs s__law_dice, defBody s__law_dice, defScope s__law_dice, [], []⟩
def d__law_off : He.DefD := ⟨("_law_off", none), "_law_off", "_law_off", defArgs s__law_off, defBody s__law_off, defScope s__law_off, [], []⟩
def d__law_row : He.DefD := ⟨("_law_row", none), "_law_row", "_law_row", defArgs s__law_row, defBody s__law_row, defScope s__law_row, [], []⟩
def d__law_mixed : He.DefD := ⟨("_law_mixed", none), "_law_mixed", "_law_mixed", defArgs s__law_mixed, defBody s__law_mixed, defScope s__law_mixed, [], []⟩
def d__law_signs : He.DefD := ⟨("_law_signs", none), "_law_signs", "_law_signs", defArgs s__law_signs, defBody s__law_signs, defScope s__law_signs, [], []⟩
def d__law_pins : He.DefD := ⟨("_law_pins", none), "_law_pins", "_law_pins", defArgs s__law_pins, defBody s__law_pins, defScope s__law_pins, [], []⟩
def d_need_row : He.DefD := ⟨("need_row", none), "need_row", "need_row", defArgs s_need_row, defBody s_need_row, defScope s_need_row, [], []⟩
def d_need_pins : He.DefD := ⟨("need_pins", none), "need_pins", "need_pins", defArgs s_need_pins, defBody s_need_pins, defScope s_need_pins, [], []⟩
def d_turns_of : He.DefD := ⟨("turns_of", none), "turns_of", "turns_of", defArgs s_turns_of, defBody s_turns_of, defScope s_turns_of, [], []⟩
def d_turns : He.DefD := ⟨("turns", none), "turns", "turns", defArgs s_turns, defBody s_turns, defScope s_turns, [], [("pins", .str (S []))]⟩
def d_is_number : He.DefD := ⟨("is_number", none), "is_number", "is_number", defArgs s_is_number, defBody s_is_number, defScope s_is_number, [], []⟩
def d_why_not : He.DefD := ⟨("why_not", none), "why_not", "why_not", defArgs s_why_not, defBody s_why_not, defScope s_why_not, [], []⟩
def d_behind : He.DefD := ⟨("behind", none), "behind", "behind", defArgs s_behind, defBody s_behind, defScope s_behind, [], []⟩
def d_turned : He.DefD := ⟨("turned", none), "turned", "turned", defArgs s_turned, defBody s_turned, defScope s_turned, [], [("pins", .str (S []))]⟩
def d_done : He.DefD := ⟨("done", none), "done", "done", defArgs s_done, defBody s_done, defScope s_done, [], [("pins", .str (S []))]⟩
def d_law : He.DefD := ⟨("law", none), "law", "law", defArgs s_law, defBody s_law, defScope s_law, [], []⟩
def fnD : List He.DefD := [d__law_dice, d__law_off, d__law_row, d__law_mixed, d__law_signs, d__law_pins, d_need_row, d_need_pins, d_turns_of, d_turns, d_is_number, d_why_not, d_behind, d_turned, d_done, d_law]
def faD : List He.Fa := [.glo "_law_dice", .glo "_law_off", .glo "_law_row", .glo "_law_mixed", .glo "_law_signs", .glo "_law_pins", .glo "need_row", .glo "need_pins", .glo "turns_of", .glo "turns", .glo "is_number", .glo "why_not", .glo "behind", .glo "turned", .glo "done", .glo "law", .free "abs", .free "all", .free "any", .free "bool", .free "enumerate", .free "int", .free "isinstance", .free "len", .free "list", .free "range", .free "str", .free "tuple", .free "zip", .int "MOST_SIGNS" 40, .str "SIGNS" (S [97, 98, 99, 100, 101, 102, 103, 104])]
def loose0 : List Str := ["TurnError", "BadPins", "BadRow", "BadTurn", "SIGNS", "MOST_SIGNS", "is_number", "need_row", "need_pins", "why_not", "behind", "turned", "turns_of", "turns", "done", "_law_dice", "_law_off", "_law_mixed", "_law_row", "_law_signs", "_law_pins"]
def loose : List Str := loose0
abbrev rowD : PySem.W.OpenRow := PySem.W.OpenLaw.row PySem.Challenge.rw_liketurns_k08_whole_turned_back
abbrev hookL : PySem.W.Hook := He.hookD 4 faD fnD
def obL (s : PySem.W.SharedT) : He.AlD := He.obsDG 4 faD fnD (HandSHeadRun.getT s)
theorem obL_eq (s : PySem.W.SharedT) : obL s = hookL.obs s.abs := He.obsDG_eq (HandSHeadRun.getT_eq s)
set_option maxHeartbeats 0 in
theorem runL (w : World) : HandSHeadRun.RunEq rowD (PySem.W.view rowD.prog [25]) hookL obL 2000 loose w := by
  intro os
  kernel_rfl
theorem txtL {K : PySem.W.Frag} {h : Heap} {mg : Str → Option Value} (X : K.In h) (G : h.Ns mainGlobals mg) (c : He.SaysD faD fnD K) : Txt K mg where
  z_abs := He.free_ok X G (c.fact 16 (f := .free "abs") rfl)
  z_all := He.free_ok X G (c.fact 17 (f := .free "all") rfl)
  z_any := He.free_ok X G (c.fact 18 (f := .free "any") rfl)
  z_bool := He.free_ok X G (c.fact 19 (f := .free "bool") rfl)
  z_enumerate := He.free_ok X G (c.fact 20 (f := .free "enumerate") rfl)
  z_int := He.free_ok X G (c.fact 21 (f := .free "int") rfl)
  z_isinstance := He.free_ok X G (c.fact 22 (f := .free "isinstance") rfl)
  z_len := He.free_ok X G (c.fact 23 (f := .free "len") rfl)
  z_list := He.free_ok X G (c.fact 24 (f := .free "list") rfl)
  z_range := He.free_ok X G (c.fact 25 (f := .free "range") rfl)
  z_str := He.free_ok X G (c.fact 26 (f := .free "str") rfl)
  z_tuple := He.free_ok X G (c.fact 27 (f := .free "tuple") rfl)
  z_zip := He.free_ok X G (c.fact 28 (f := .free "zip") rfl)
  c_MOST_SIGNS := by
    obtain ⟨t, e⟩ := He.int_ok X G (c.fact 29 (f := .int "MOST_SIGNS" 40) rfl)
    exact ⟨_, e, ⟨_, rfl⟩⟩
  c_SIGNS := by
    obtain ⟨t, e⟩ := He.str_ok X G (c.fact 30 (f := .str "SIGNS" (S [97, 98, 99, 100, 101, 102, 103, 104])) rfl)
    exact ⟨_, e, ⟨_, rfl⟩⟩
  f__law_dice := by
    obtain ⟨fd, F⟩ := c.def_ 0 (d := d__law_dice) rfl
    exact ⟨_, fd, He.glo_ok X G (c.fact 0 (f := .glo "_law_dice") rfl), F⟩
  f__law_off := by
    obtain ⟨fd, F⟩ := c.def_ 1 (d := d__law_off) rfl
    exact ⟨_, fd, He.glo_ok X G (c.fact 1 (f := .glo "_law_off") rfl), F⟩
  f__law_row := by
    obtain ⟨fd, F⟩ := c.def_ 2 (d := d__law_row) rfl
    exact ⟨_, fd, He.glo_ok X G (c.fact 2 (f := .glo "_law_row") rfl), F⟩
  f__law_mixed := by
    obtain ⟨fd, F⟩ := c.def_ 3 (d := d__law_mixed) rfl
    exact ⟨_, fd, He.glo_ok X G (c.fact 3 (f := .glo "_law_mixed") rfl), F⟩
  f__law_signs := by
    obtain ⟨fd, F⟩ := c.def_ 4 (d := d__law_signs) rfl
    exact ⟨_, fd, He.glo_ok X G (c.fact 4 (f := .glo "_law_signs") rfl), F⟩
  f__law_pins := by
    obtain ⟨fd, F⟩ := c.def_ 5 (d := d__law_pins) rfl
    exact ⟨_, fd, He.glo_ok X G (c.fact 5 (f := .glo "_law_pins") rfl), F⟩
  f_need_row := by
    obtain ⟨fd, F⟩ := c.def_ 6 (d := d_need_row) rfl
    exact ⟨_, fd, He.glo_ok X G (c.fact 6 (f := .glo "need_row") rfl), F⟩
  f_need_pins := by
    obtain ⟨fd, F⟩ := c.def_ 7 (d := d_need_pins) rfl
    exact ⟨_, fd, He.glo_ok X G (c.fact 7 (f := .glo "need_pins") rfl), F⟩
  f_turns_of := by
    obtain ⟨fd, F⟩ := c.def_ 8 (d := d_turns_of) rfl
    exact ⟨_, fd, He.glo_ok X G (c.fact 8 (f := .glo "turns_of") rfl), F⟩
  f_turns := by
    obtain ⟨fd, F⟩ := c.def_ 9 (d := d_turns) rfl
    exact ⟨_, fd, He.glo_ok X G (c.fact 9 (f := .glo "turns") rfl), F⟩
  f_is_number := by
    obtain ⟨fd, F⟩ := c.def_ 10 (d := d_is_number) rfl
    exact ⟨_, fd, He.glo_ok X G (c.fact 10 (f := .glo "is_number") rfl), F⟩
  f_why_not := by
    obtain ⟨fd, F⟩ := c.def_ 11 (d := d_why_not) rfl
    exact ⟨_, fd, He.glo_ok X G (c.fact 11 (f := .glo "why_not") rfl), F⟩
  f_behind := by
    obtain ⟨fd, F⟩ := c.def_ 12 (d := d_behind) rfl
    exact ⟨_, fd, He.glo_ok X G (c.fact 12 (f := .glo "behind") rfl), F⟩
  f_turned := by
    obtain ⟨fd, F⟩ := c.def_ 13 (d := d_turned) rfl
    exact ⟨_, fd, He.glo_ok X G (c.fact 13 (f := .glo "turned") rfl), F⟩
  f_done := by
    obtain ⟨fd, F⟩ := c.def_ 14 (d := d_done) rfl
    exact ⟨_, fd, He.glo_ok X G (c.fact 14 (f := .glo "done") rfl), F⟩
theorem factsL {P : Program} {w : World} {K : PySem.W.Frag} {h : Heap} {mg : Str → Option Value} {f : Addr} (X : K.In h) (G : h.Ns mainGlobals mg) (hfa : mg ("law" : Str) = some (.ref f)) (c : He.SaysD faD fnD K) :
    ∃ fd : FuncData, (∀ (s : Shared) (v : Value), BindsTo s fd ⟨[v], []⟩ [("_law_script", v)]) ∧ ∀ base : Heap, K.In base → base.Ns mainGlobals mg → FnOk P w K mg base CX0 4 f fd ["_law_script"] (sp_law K) := by
  obtain ⟨fd, F⟩ := c.def_ 15 (d := d_law) rfl
  have e := hfa.symm.trans (He.glo_ok X G (c.fact 15 (f := .glo "law") rfl))
  cases e
  have b := FunD.bindsA (ps := ["_law_script"]) F fun _ _ _ _ _ _ us hl => match us, hl with | [_], _ => rfl
  exact ⟨fd, fun s v => b s [v] rfl, fun base _ _ => ok_law (txtL X G c) F⟩
end Lt
open PySem PySem.W PySem.Calls PyProof.Rows
set_option maxHeartbeats 0 in
theorem PySem.Challenge.cw_liketurns_k08_whole_turned_back_holds : PySem.Challenge.rw_liketurns_k08_whole_turned_back.Holds := by
  w_on; o_law
  refine HandSHeadRun.head_any (r := OpenLaw.row PySem.Challenge.rw_liketurns_k08_whole_turned_back) (q := view (OpenLaw.row PySem.Challenge.rw_liketurns_k08_whole_turned_back).prog [25]) (H := Lt.hookL) (ob := Lt.obL) (M := 2000) (loose := Lt.loose) (d := HandSHeadRun.topDef (OpenLaw.row PySem.Challenge.rw_liketurns_k08_whole_turned_back).prog 25) (kwd := []) Lt.obL_eq
    (by kernel_rfl) (fun s => by kernel_rfl) Lt.runL (by kernel_rfl) (by kernel_rfl) (by kernel_rfl) (by rfl) (by first | assumption | decide +kernel) (by decide +kernel) ⟨rfl, rfl, rfl, rfl, rfl, by decide +kernel⟩ ?hw ?hc
  case hw => w_witness2
  case hc =>
    refine L2.walk_ofE (l := PySem.Challenge.rw_liketurns_k08_whole_turned_back) (n := 63) (k := 4) (x := "_law_script") (CX := L2.CX0) rfl (by decide) (by kernel_rfl) ⟨rfl, by decide, by decide⟩ ?F (fun _ _ _ _ z => z)
    intro w mg fa h Y G hmg0
    obtain ⟨K, KX, c⟩ := Y
    have hmg : mg ("law" : PySem.Str) = some (.ref fa) := by
      have e : (HandSHeadRun.topDef (OpenLaw.row PySem.Challenge.rw_liketurns_k08_whole_turned_back).prog 25).name = ("law" : PySem.Str) := by kernel_rfl
      rw [← e]
      exact hmg0
    obtain ⟨fd, hb, hF⟩ := Lt.factsL (P := (PySem.Challenge.rw_liketurns_k08_whole_turned_back).prog) (w := w) KX G hmg c
    exact ⟨K, fd, Lt.sp_law K, KX, hb, fun H a ns hl _ hS => ⟨a, ns, rfl, hS, hl, fun _ => rfl⟩, hF⟩
